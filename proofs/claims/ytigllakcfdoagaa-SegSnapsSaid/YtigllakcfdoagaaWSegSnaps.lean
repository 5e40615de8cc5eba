/-
  The walk of the law SegSnaps.
-/
import Derived.Test.YtigllakcfdoagaaProg
import Derived.Test.YtigllakcfdoagaaAm13
import Derived.Test.YtigllakcfdoagaaSg4
import Derived.Test.YtigllakcfdoagaaSg5
namespace Go.Proofs.Ytigllakcfdoagaa.Am
open Go Go.Proofs
set_option maxRecDepth 100000
set_option maxHeartbeats 4000000
set_option linter.unusedVariables false
set_option linter.unusedSimpArgs false

theorem segSnaps_walk (n1 d1 : Int) (zln1 : -9223372036854775808 ≤ n1) (zun1 : n1 ≤ 9223372036854775807) (zld1 : -9223372036854775808 ≤ d1) (zud1 : d1 ≤ 9223372036854775807) (n2 d2 : Int) (zln2 : -9223372036854775808 ≤ n2) (zun2 : n2 ≤ 9223372036854775807) (zld2 : -9223372036854775808 ≤ d2) (zud2 : d2 ≤ 9223372036854775807) :
    AC Try.prog 5 0 ([.agg #[.int .i64 n1, .int .i64 d1, .int .i64 n2, .int .i64 d2]]) [] (.bool true) [] := by
  refine ac_in Try.func5 (fun w0 W pin => ?_)
  refine aw_p 3 (
    .a 2 1 <| .nil _ _) ?_
  refine aw_p 7 (
    .a 1 2 <| .nil _ _) ?_
  refine aw_d 15 (
    .p (does_c (terrlaw1_segBegun_ok)) <| .a 2 2 <| .p (does_c (segsnap_ok n1 d1 (by omega) (by omega) (by omega) (by omega) n2 d2 (by omega) (by omega) (by omega) (by omega))) <| .a 3 2 <| .p (does_c (snapup_ok n1 d1 (by omega) (by omega) (by omega) (by omega))) <| .a 3 2 <|
    .p (does_c (snapup_ok n2 d2 (by omega) (by omega) (by omega) (by omega))) <| .p (does_c (terrlaw1_at_ok (Sp.rnd (Sp.rv n1 d1)) (Sp.rnd (Sp.rv n2 d2)))) <| .p (does_c (rvalid_ok (Sp.rnd (Sp.rv n1 d1)) (Sp.rnd (Sp.rv n2 d2)))) <|
    .p (does_e true ((show (((Sp.lim 1048576 (Sp.rnd (Sp.rv n1 d1))) == (Sp.lim 1048576 (Sp.rnd (Sp.rv n1 d1)))) && (((Sp.lim 1048576 (Sp.rnd (Sp.rv n2 d2))) == (Sp.lim 1048576 (Sp.rnd (Sp.rv n2 d2)))) && true)) = true from by simp))) <| .a 2 2 <| .nil _ _) ?_
  refine aw_rt ?_
  exact en_ret [.bool true] (by kernel_rfl)


end Go.Proofs.Ytigllakcfdoagaa.Am
