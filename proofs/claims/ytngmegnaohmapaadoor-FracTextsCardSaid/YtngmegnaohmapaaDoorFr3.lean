/-
  Small functions of the laws of fractions.
-/
import Derived.Test.YtngmegnaohmapaaDoorProg
import Derived.Test.YtngmegnaohmapaaDoorAm16
import Derived.Test.YtngmegnaohmapaaDoorFr1
import Derived.Test.YtngmegnaohmapaaDoorFr2
namespace Go.Proofs.YtngmegnaohmapaaDoor.Am
open Go Go.Proofs
set_option maxRecDepth 100000
set_option maxHeartbeats 4000000
set_option linter.unusedVariables false
set_option linter.unusedSimpArgs false

theorem same_ok (n d e : Int) :
    AC Tryd.prog 12 0 ([.agg #[.int .i64 n, .int .i64 d], .int .i64 e, .agg #[.int .i64 n, .int .i64 d], .int .i64 e]) [] (.bool true) [] := by
  refine ac_in Tryd.func12 (fun w0 W pin => ?_)
  refine aw_p 3 (
    .a 3 1 <| .nil _ _) ?_
  refine aw_p 7 (
    .a 2 3 <| .p (does_e true ((show ((n == n) && ((d == d) && true)) = true from by simp))) <| .a 3 3 <| .p (does_b true ((show (e == e) = true from by simp))) <| .a 2 3 <| .nil _ _) ?_
  refine aw_rt ?_
  exact en_ret [.bool true] (by kernel_rfl)


end Go.Proofs.YtngmegnaohmapaaDoor.Am
