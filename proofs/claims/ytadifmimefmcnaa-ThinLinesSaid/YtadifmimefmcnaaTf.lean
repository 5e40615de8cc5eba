/-
  The walk of which of two points is farther.
-/
import Derived.Test.YtadifmimefmcnaaProg
import Derived.Test.YtadifmimefmcnaaAm16
import Derived.Test.YtadifmimefmcnaaTg
namespace Go.Proofs.Ytadifmimefmcnaa.Am
open Go Go.Proofs
set_option maxRecDepth 100000
set_option maxHeartbeats 4000000
set_option linter.unusedVariables false
set_option linter.unusedSimpArgs false

theorem farther_ok (px py qx qy ax ay bx b_y : Int) (pxl : -1048576 ≤ px) (pxu : px ≤ 1048576) (pyl : -1048576 ≤ py) (pyu : py ≤ 1048576) (qxl : -1048576 ≤ qx) (qxu : qx ≤ 1048576) (qyl : -1048576 ≤ qy) (qyu : qy ≤ 1048576) (axl : -1048576 ≤ ax) (axu : ax ≤ 1048576) (ayl : -1048576 ≤ ay) (ayu : ay ≤ 1048576) (bxl : -1048576 ≤ bx) (bxu : bx ≤ 1048576) (b_yl : -1048576 ≤ b_y) (b_yu : b_y ≤ 1048576) :
    AC Try.prog 102 0 ([.agg #[.int .i64 px, .int .i64 py], .agg #[.int .i64 qx, .int .i64 qy], .agg #[.int .i64 ax, .int .i64 ay], .agg #[.int .i64 bx, .int .i64 b_y]]) [] (.bool (Sp.farB px py qx qy ax ay bx b_y)) [] := by
  have d1 := Sp.dq_bd (px := px) (py := py) (ax := ax) (ay := ay) (bx := bx) (b_y := b_y) (by omega) (by omega) (by omega) (by omega) (by omega) (by omega) (by omega) (by omega) (by omega) (by omega) (by omega) (by omega); have d2 := Sp.dq_bd (px := qx) (py := qy) (ax := ax) (ay := ay) (bx := bx) (b_y := b_y) (by omega) (by omega) (by omega) (by omega) (by omega) (by omega) (by omega) (by omega) (by omega) (by omega) (by omega) (by omega)
  refine ac_in Try.func102 (fun w0 W pin => ?_)
  refine aw_p 3 (
    .a 5 1 <| .nil _ _) ?_
  refine aw_p 7 (
    .a 2 5 <| .p (does_c (sq_in ax ay bx b_y (by omega) (by omega) (by omega) (by omega) (by omega) (by omega) (by omega) (by omega))) <| .a 2 5 <| .nil _ _) ?_
  refine aw_p 15 (
    .a 3 5 <| .p (does_c (segsq_in px py ax ay bx b_y (by omega) (by omega) (by omega) (by omega) (by omega) (by omega) (by omega) (by omega) (by omega) (by omega) (by omega) (by omega))) <| .a 6 5 <| .nil _ _) ?_
  refine aw_p 31 (
    .a 3 6 <| .p (does_c (segsq_in qx qy ax ay bx b_y (by omega) (by omega) (by omega) (by omega) (by omega) (by omega) (by omega) (by omega) (by omega) (by omega) (by omega) (by omega))) <| .a 6 6 <| .nil _ _) ?_
  refine aw_d 63 (
    .a 3 7 <|
    .p (does_int (n' := Int.tdiv (Sp.mx 1 (Sp.dot ax ay bx b_y bx b_y)) (Sp.sqd px py ax ay bx b_y)) (does_quo (t := 3) (t2 := 3) (x := .tmp 34) (y := .tmp 35) (k := .i64) (a := (Sp.mx 1 (Sp.dot ax ay bx b_y bx b_y))) (b := (Sp.sqd px py ax ay bx b_y)) (by kernel_rfl) (by kernel_rfl) (by kernel_rfl) (by omega)) (wrap_i64 (by omega) (by omega))) <|
    .p (does_c ((by have h := wtimes_ok (Sp.sqn px py ax ay bx b_y) (Int.tdiv (Sp.mx 1 (Sp.dot ax ay bx b_y bx b_y)) (Sp.sqd px py ax ay bx b_y)) (by omega) (by omega) (by omega) (by omega); rw [(Sp.tm_yes (x := (Sp.sqn px py ax ay bx b_y) * (Int.tdiv (Sp.mx 1 (Sp.dot ax ay bx b_y bx b_y)) (Sp.sqd px py ax ay bx b_y))) (by omega)).1, (Sp.tm_yes (x := (Sp.sqn px py ax ay bx b_y) * (Int.tdiv (Sp.mx 1 (Sp.dot ax ay bx b_y bx b_y)) (Sp.sqd px py ax ay bx b_y))) (by omega)).2] at h; exact h))) <|
    .a 4 7 <| .nil _ _) ?_
  refine aw_d 127 (
    .a 3 7 <|
    .p (does_int (n' := Int.tdiv (Sp.mx 1 (Sp.dot ax ay bx b_y bx b_y)) (Sp.sqd qx qy ax ay bx b_y)) (does_quo (t := 3) (t2 := 3) (x := .tmp 42) (y := .tmp 43) (k := .i64) (a := (Sp.mx 1 (Sp.dot ax ay bx b_y bx b_y))) (b := (Sp.sqd qx qy ax ay bx b_y)) (by kernel_rfl) (by kernel_rfl) (by kernel_rfl) (by omega)) (wrap_i64 (by omega) (by omega))) <|
    .p (does_c ((by have h := wtimes_ok (Sp.sqn qx qy ax ay bx b_y) (Int.tdiv (Sp.mx 1 (Sp.dot ax ay bx b_y bx b_y)) (Sp.sqd qx qy ax ay bx b_y)) (by omega) (by omega) (by omega) (by omega); rw [(Sp.tm_yes (x := (Sp.sqn qx qy ax ay bx b_y) * (Int.tdiv (Sp.mx 1 (Sp.dot ax ay bx b_y bx b_y)) (Sp.sqd qx qy ax ay bx b_y))) (by omega)).1, (Sp.tm_yes (x := (Sp.sqn qx qy ax ay bx b_y) * (Int.tdiv (Sp.mx 1 (Sp.dot ax ay bx b_y bx b_y)) (Sp.sqd qx qy ax ay bx b_y))) (by omega)).2] at h; exact h))) <|
    .a 4 7 <| .nil _ _) ?_
  refine aw_p 255 (
    .a 2 7 <| .p (does_c (wcmp_ok ((Sp.sqn px py ax ay bx b_y) * (Int.tdiv (Sp.mx 1 (Sp.dot ax ay bx b_y bx b_y)) (Sp.sqd px py ax ay bx b_y))) ((Sp.sqn qx qy ax ay bx b_y) * (Int.tdiv (Sp.mx 1 (Sp.dot ax ay bx b_y bx b_y)) (Sp.sqd qx qy ax ay bx b_y))) (by omega) (by omega) (by omega) (by omega))) <|
    .a 2 7 <| .nil _ _) ?_
  refine aw_rt ?_
  exact en_ret [.bool (decide ((Sp.cmp ((Sp.sqn px py ax ay bx b_y) * (Int.tdiv (Sp.mx 1 (Sp.dot ax ay bx b_y bx b_y)) (Sp.sqd px py ax ay bx b_y))) ((Sp.sqn qx qy ax ay bx b_y) * (Int.tdiv (Sp.mx 1 (Sp.dot ax ay bx b_y bx b_y)) (Sp.sqd qx qy ax ay bx b_y)))) > 0))] (show (.bool (decide ((Sp.cmp ((Sp.sqn px py ax ay bx b_y) * (Int.tdiv (Sp.mx 1 (Sp.dot ax ay bx b_y bx b_y)) (Sp.sqd px py ax ay bx b_y))) ((Sp.sqn qx qy ax ay bx b_y) * (Int.tdiv (Sp.mx 1 (Sp.dot ax ay bx b_y bx b_y)) (Sp.sqd qx qy ax ay bx b_y)))) > 0)) : Value) = (.bool (Sp.farB px py qx qy ax ay bx b_y)) from (congrArg Value.bool (show (decide ((Sp.cmp ((Sp.sqn px py ax ay bx b_y) * (Int.tdiv (Sp.mx 1 (Sp.dot ax ay bx b_y bx b_y)) (Sp.sqd px py ax ay bx b_y))) ((Sp.sqn qx qy ax ay bx b_y) * (Int.tdiv (Sp.mx 1 (Sp.dot ax ay bx b_y bx b_y)) (Sp.sqd qx qy ax ay bx b_y)))) > 0)) = (Sp.farB px py qx qy ax ay bx b_y) from by (exact Sp.far_eq _ _))))


end Go.Proofs.Ytadifmimefmcnaa.Am
