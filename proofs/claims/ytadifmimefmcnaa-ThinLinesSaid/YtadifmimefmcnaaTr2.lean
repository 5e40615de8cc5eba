/-
  The walk of which point is nearer.
-/
import Derived.Test.YtadifmimefmcnaaProg
import Derived.Test.YtadifmimefmcnaaAm16
import Derived.Test.YtadifmimefmcnaaTr
namespace Go.Proofs.Ytadifmimefmcnaa.Am
open Go Go.Proofs
set_option maxRecDepth 100000
set_option maxHeartbeats 4000000
set_option linter.unusedVariables false
set_option linter.unusedSimpArgs false

theorem rnearer_ok (px py qx qy ax ay bx b_y : Int) (pxl : -1048576 ≤ px) (pxu : px ≤ 1048576) (pyl : -1048576 ≤ py) (pyu : py ≤ 1048576) (qxl : -1048576 ≤ qx) (qxu : qx ≤ 1048576) (qyl : -1048576 ≤ qy) (qyu : qy ≤ 1048576) (axl : -1048576 ≤ ax) (axu : ax ≤ 1048576) (ayl : -1048576 ≤ ay) (ayu : ay ≤ 1048576) (bxl : -1048576 ≤ bx) (bxu : bx ≤ 1048576) (b_yl : -1048576 ≤ b_y) (b_yu : b_y ≤ 1048576) :
    AC Try.prog 74 0 ([.agg #[.int .i64 px, .int .i64 py], .agg #[.int .i64 qx, .int .i64 qy], .agg #[.int .i64 ax, .int .i64 ay], .agg #[.int .i64 bx, .int .i64 b_y]]) [] (.bool (Sp.nrB px py qx qy ax ay bx b_y)) [] := by
  have d1 := Sp.sq_bd px py ax ay bx b_y (by omega) (by omega) (by omega) (by omega) (by omega) (by omega) (by omega) (by omega) (by omega) (by omega) (by omega) (by omega); have d2 := Sp.sq_bd qx qy ax ay bx b_y (by omega) (by omega) (by omega) (by omega) (by omega) (by omega) (by omega) (by omega) (by omega) (by omega) (by omega) (by omega); have m1 := Sp.mul_bd (a := Sp.sqn px py ax ay bx b_y) (b := Sp.sqd qx qy ax ay bx b_y) (A := 77371252455336267181195264) (B := 8796093022208) (by omega) (by omega) (by omega) (by omega); have m2 := Sp.mul_bd (a := Sp.sqn qx qy ax ay bx b_y) (b := Sp.sqd px py ax ay bx b_y) (A := 77371252455336267181195264) (B := 8796093022208) (by omega) (by omega) (by omega) (by omega)
  refine ac_in Try.func74 (fun w0 W pin => ?_)
  refine aw_p 3 (
    .a 5 1 <| .nil _ _) ?_
  refine aw_p 7 (
    .a 3 5 <| .p (does_c (rdist_in px py ax ay bx b_y (by omega) (by omega) (by omega) (by omega) (by omega) (by omega) (by omega) (by omega) (by omega) (by omega) (by omega) (by omega))) <| .a 7 5 <| .nil _ _) ?_
  refine aw_p 15 (
    .a 3 7 <| .p (does_c (rdist_in qx qy ax ay bx b_y (by omega) (by omega) (by omega) (by omega) (by omega) (by omega) (by omega) (by omega) (by omega) (by omega) (by omega) (by omega))) <| .a 7 7 <| .nil _ _) ?_
  refine aw_d 31 (
    .a 2 9 <| .p (does_c (ltimes_ok (Sp.sqn px py ax ay bx b_y) (Sp.sqd qx qy ax ay bx b_y))) <| .a 2 9 <| .p (does_c (ltimes_ok (Sp.sqn qx qy ax ay bx b_y) (Sp.sqd px py ax ay bx b_y))) <|
    .p (does_c (lminus_ok ((Sp.sqn px py ax ay bx b_y) * (Sp.sqd qx qy ax ay bx b_y)) ((Sp.sqn qx qy ax ay bx b_y) * (Sp.sqd px py ax ay bx b_y)))) <|
    .p (does_c (lsign_ok (((Sp.sqn px py ax ay bx b_y) * (Sp.sqd qx qy ax ay bx b_y)) - ((Sp.sqn qx qy ax ay bx b_y) * (Sp.sqd px py ax ay bx b_y))) (by omega) (by omega))) <| .a 2 9 <| .nil _ _) ?_
  refine aw_rt ?_
  exact en_ret [.bool (decide ((Sp.sgn (((Sp.sqn px py ax ay bx b_y) * (Sp.sqd qx qy ax ay bx b_y)) - ((Sp.sqn qx qy ax ay bx b_y) * (Sp.sqd px py ax ay bx b_y)))) < 0))] (show (.bool (decide ((Sp.sgn (((Sp.sqn px py ax ay bx b_y) * (Sp.sqd qx qy ax ay bx b_y)) - ((Sp.sqn qx qy ax ay bx b_y) * (Sp.sqd px py ax ay bx b_y)))) < 0)) : Value) = (.bool (Sp.nrB px py qx qy ax ay bx b_y)) from (congrArg Value.bool (show (decide ((Sp.sgn (((Sp.sqn px py ax ay bx b_y) * (Sp.sqd qx qy ax ay bx b_y)) - ((Sp.sqn qx qy ax ay bx b_y) * (Sp.sqd px py ax ay bx b_y)))) < 0)) = (Sp.nrB px py qx qy ax ay bx b_y) from by (exact Sp.sgn_neg _))))


end Go.Proofs.Ytadifmimefmcnaa.Am
