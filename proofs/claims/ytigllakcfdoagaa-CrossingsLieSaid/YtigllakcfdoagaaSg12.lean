/-
  The walk of rounding to the grid.
-/
import Derived.Test.YtigllakcfdoagaaProg
import Derived.Test.YtigllakcfdoagaaAm16
import Derived.Test.YtigllakcfdoagaaFr4
import Derived.Test.YtigllakcfdoagaaPt1
namespace Go.Proofs.Ytigllakcfdoagaa.Am
open Go Go.Proofs
set_option maxRecDepth 100000
set_option maxHeartbeats 4000000
set_option linter.unusedVariables false
set_option linter.unusedSimpArgs false

theorem segsnap_ok (n1 d1 : Int) (zln1 : -9223372036854775808 ≤ n1) (zun1 : n1 ≤ 9223372036854775807) (zld1 : -9223372036854775808 ≤ d1) (zud1 : d1 ≤ 9223372036854775807) (n2 d2 : Int) (zln2 : -9223372036854775808 ≤ n2) (zun2 : n2 ≤ 9223372036854775807) (zld2 : -9223372036854775808 ≤ d2) (zud2 : d2 ≤ 9223372036854775807) :
    AC Try.prog 33 0 ([.agg #[.int .i64 n1, .int .i64 d1, .int .i64 n2, .int .i64 d2]]) [] (.agg #[.int .i64 (Sp.lim 1048576 (Sp.rnd (Sp.rv n1 d1))), .int .i64 (Sp.lim 1048576 (Sp.rnd (Sp.rv n2 d2)))]) [] := by
  refine ac_in Try.func33 (fun w0 W pin => ?_)
  refine aw_p 3 (
    .a 2 1 <| .nil _ _) ?_
  refine aw_d 7 (
    .a 2 3 <| .p (does_c (fround_ok n1 d1 (by omega) (by omega) (by omega) (by omega))) <| .a 2 3 <| .p (does_c (fround_ok n2 d2 (by omega) (by omega) (by omega) (by omega))) <| .a 1 3 <| .p (does_c (clamp_ok (Sp.rnd (Sp.rv n1 d1)) (Sp.rnd (Sp.rv n2 d2)))) <| .a 1 3 <| .nil _ _) ?_
  refine aw_rt ?_
  exact en_ret [.agg #[.int .i64 (Sp.lim 1048576 (Sp.rnd (Sp.rv n1 d1))), .int .i64 (Sp.lim 1048576 (Sp.rnd (Sp.rv n2 d2)))]] (by kernel_rfl)


end Go.Proofs.Ytigllakcfdoagaa.Am
