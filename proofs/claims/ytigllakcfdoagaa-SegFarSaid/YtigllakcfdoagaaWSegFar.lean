/-
  The walk of the law SegFar.
-/
import Derived.Test.YtigllakcfdoagaaProg
import Derived.Test.YtigllakcfdoagaaAm13
import Derived.Test.YtigllakcfdoagaaSg4
import Derived.Test.YtigllakcfdoagaaSg5
namespace Go.Proofs.Ytigllakcfdoagaa.Am
open Go Go.Proofs
set_option maxRecDepth 100000
set_option maxHeartbeats 4000000
set_option linter.unusedVariables false
set_option linter.unusedSimpArgs false

theorem segFar_walk (px py ax ay bx b_y by_ : Int) (zlby_ : -9223372036854775808 ≤ by_) (zuby_ : by_ ≤ 9223372036854775807) :
    AC Try.prog 6 0 ([.agg #[.int .i64 px, .int .i64 py], .agg #[.int .i64 ax, .int .i64 ay], .agg #[.int .i64 bx, .int .i64 b_y], .int .i64 by_]) [] (.bool true) [] := by
  have qpx := Sp.lim_bd (m := 1048576) (by decide) px; have qpy := Sp.lim_bd (m := 1048576) (by decide) py; have qax := Sp.lim_bd (m := 1048576) (by decide) ax; have qay := Sp.lim_bd (m := 1048576) (by decide) ay; have qbx := Sp.lim_bd (m := 1048576) (by decide) bx; have qb_y := Sp.lim_bd (m := 1048576) (by decide) b_y; have sb := Sp.sq_bd (Sp.lim 1048576 px) (Sp.lim 1048576 py) (Sp.lim 1048576 ax) (Sp.lim 1048576 ay) (Sp.lim 1048576 bx) (Sp.lim 1048576 b_y) (by omega) (by omega) (by omega) (by omega) (by omega) (by omega) (by omega) (by omega) (by omega) (by omega) (by omega) (by omega)
  refine ac_in Try.func6 (fun w0 W pin => ?_)
  refine aw_p 3 (
    .a 4 1 <| .nil _ _) ?_
  refine aw_sq 6 7 ?_
  refine aw_p 13 (
    .p (does_c (terrlaw1_segBegun_ok)) <| .a 1 4 <| .nil _ _) ?_
  refine aw_fl 27 ?_
  refine aw_sk ?_
  refine then_normal ?_
  refine aw_p 15 (
    .a 3 4 <| .p (does_c (segsq_any px py ax ay bx b_y)) <| .a 6 4 <| .nil _ _) ?_
  refine aw_p 31 (
    .a 3 5 <| .p (does_c (rdist_any px py ax ay bx b_y)) <| .a 7 5 <| .nil _ _) ?_
  refine aw_d 63 (
    .a 2 7 <| .p (does_c (lwd_ok (Sp.sqn (Sp.lim 1048576 px) (Sp.lim 1048576 py) (Sp.lim 1048576 ax) (Sp.lim 1048576 ay) (Sp.lim 1048576 bx) (Sp.lim 1048576 b_y)))) <|
    .p (does_e true ((show (((Sp.wh (Sp.sqn (Sp.lim 1048576 px) (Sp.lim 1048576 py) (Sp.lim 1048576 ax) (Sp.lim 1048576 ay) (Sp.lim 1048576 bx) (Sp.lim 1048576 b_y))) == (Sp.wh (Sp.sqn (Sp.lim 1048576 px) (Sp.lim 1048576 py) (Sp.lim 1048576 ax) (Sp.lim 1048576 ay) (Sp.lim 1048576 bx) (Sp.lim 1048576 b_y)))) && (((Sp.wl (Sp.sqn (Sp.lim 1048576 px) (Sp.lim 1048576 py) (Sp.lim 1048576 ax) (Sp.lim 1048576 ay) (Sp.lim 1048576 bx) (Sp.lim 1048576 b_y))) == (Sp.wl (Sp.sqn (Sp.lim 1048576 px) (Sp.lim 1048576 py) (Sp.lim 1048576 ax) (Sp.lim 1048576 ay) (Sp.lim 1048576 bx) (Sp.lim 1048576 b_y)))) && true)) = true from by simp))) <|
    .a 2 7 <| .p (does_c (llof_ok (Sp.sqd (Sp.lim 1048576 px) (Sp.lim 1048576 py) (Sp.lim 1048576 ax) (Sp.lim 1048576 ay) (Sp.lim 1048576 bx) (Sp.lim 1048576 b_y)) (by omega) (by omega))) <| .a 1 7 <|
    .p (does_e true ((show (((Sp.dgt (Sp.sqd (Sp.lim 1048576 px) (Sp.lim 1048576 py) (Sp.lim 1048576 ax) (Sp.lim 1048576 ay) (Sp.lim 1048576 bx) (Sp.lim 1048576 b_y)) 0) == (Sp.dgt (Sp.sqd (Sp.lim 1048576 px) (Sp.lim 1048576 py) (Sp.lim 1048576 ax) (Sp.lim 1048576 ay) (Sp.lim 1048576 bx) (Sp.lim 1048576 b_y)) 0)) && (((Sp.dgt (Sp.sqd (Sp.lim 1048576 px) (Sp.lim 1048576 py) (Sp.lim 1048576 ax) (Sp.lim 1048576 ay) (Sp.lim 1048576 bx) (Sp.lim 1048576 b_y)) 1) == (Sp.dgt (Sp.sqd (Sp.lim 1048576 px) (Sp.lim 1048576 py) (Sp.lim 1048576 ax) (Sp.lim 1048576 ay) (Sp.lim 1048576 bx) (Sp.lim 1048576 b_y)) 1)) && (((Sp.dgt (Sp.sqd (Sp.lim 1048576 px) (Sp.lim 1048576 py) (Sp.lim 1048576 ax) (Sp.lim 1048576 ay) (Sp.lim 1048576 bx) (Sp.lim 1048576 b_y)) 2) == (Sp.dgt (Sp.sqd (Sp.lim 1048576 px) (Sp.lim 1048576 py) (Sp.lim 1048576 ax) (Sp.lim 1048576 ay) (Sp.lim 1048576 bx) (Sp.lim 1048576 b_y)) 2)) && (((Sp.dgt (Sp.sqd (Sp.lim 1048576 px) (Sp.lim 1048576 py) (Sp.lim 1048576 ax) (Sp.lim 1048576 ay) (Sp.lim 1048576 bx) (Sp.lim 1048576 b_y)) 3) == (Sp.dgt (Sp.sqd (Sp.lim 1048576 px) (Sp.lim 1048576 py) (Sp.lim 1048576 ax) (Sp.lim 1048576 ay) (Sp.lim 1048576 bx) (Sp.lim 1048576 b_y)) 3)) && (((Sp.dgt (Sp.sqd (Sp.lim 1048576 px) (Sp.lim 1048576 py) (Sp.lim 1048576 ax) (Sp.lim 1048576 ay) (Sp.lim 1048576 bx) (Sp.lim 1048576 b_y)) 4) == (Sp.dgt (Sp.sqd (Sp.lim 1048576 px) (Sp.lim 1048576 py) (Sp.lim 1048576 ax) (Sp.lim 1048576 ay) (Sp.lim 1048576 bx) (Sp.lim 1048576 b_y)) 4)) && (((Sp.dgt (Sp.sqd (Sp.lim 1048576 px) (Sp.lim 1048576 py) (Sp.lim 1048576 ax) (Sp.lim 1048576 ay) (Sp.lim 1048576 bx) (Sp.lim 1048576 b_y)) 5) == (Sp.dgt (Sp.sqd (Sp.lim 1048576 px) (Sp.lim 1048576 py) (Sp.lim 1048576 ax) (Sp.lim 1048576 ay) (Sp.lim 1048576 bx) (Sp.lim 1048576 b_y)) 5)) && (((Sp.dgt (Sp.sqd (Sp.lim 1048576 px) (Sp.lim 1048576 py) (Sp.lim 1048576 ax) (Sp.lim 1048576 ay) (Sp.lim 1048576 bx) (Sp.lim 1048576 b_y)) 6) == (Sp.dgt (Sp.sqd (Sp.lim 1048576 px) (Sp.lim 1048576 py) (Sp.lim 1048576 ax) (Sp.lim 1048576 ay) (Sp.lim 1048576 bx) (Sp.lim 1048576 b_y)) 6)) && true))))))) = true from by simp))) <|
    .a 6 7 <| .p (does_c (within_any px py ax ay bx b_y by_)) <| .a 4 7 <| .p (does_c (rnear_any px py ax ay bx b_y by_ (by omega) (by omega))) <|
    .p (does_b true ((show ((Sp.wthn (Sp.lim 1048576 px) (Sp.lim 1048576 py) (Sp.lim 1048576 ax) (Sp.lim 1048576 ay) (Sp.lim 1048576 bx) (Sp.lim 1048576 b_y) by_) == (Sp.wthn (Sp.lim 1048576 px) (Sp.lim 1048576 py) (Sp.lim 1048576 ax) (Sp.lim 1048576 ay) (Sp.lim 1048576 bx) (Sp.lim 1048576 b_y) by_)) = true from by simp))) <|
    .a 2 7 <| .nil _ _) ?_
  refine aw_rt ?_
  exact en_ret [.bool true] (by kernel_rfl)


end Go.Proofs.Ytigllakcfdoagaa.Am
