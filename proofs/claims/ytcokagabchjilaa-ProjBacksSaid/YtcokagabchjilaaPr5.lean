/-
  What is begun.
-/
import Derived.Test.YtcokagabchjilaaProg
import Derived.Test.YtcokagabchjilaaAm16
import Derived.Test.YtcokagabchjilaaPr3
namespace Go.Proofs.Ytcokagabchjilaa.Am
open Go Go.Proofs
set_option maxRecDepth 100000
set_option maxHeartbeats 4000000
set_option linter.unusedVariables false
set_option linter.unusedSimpArgs false

theorem terrlaw1_projBegun_ok  :
    AC Try.prog 23 0 ([]) [] (.bool true) [] := by
  refine ac_in Try.func23 (fun w0 W pin => ?_)
  refine aw_p 3 (
    .a 1 1 <| .nil _ _) ?_
  refine aw_p 7 (
    .a 1 1 <| .p (does_c (point_ok 0 0 1000 2000000 3000000 (by decide) (by decide) (by decide) (by decide) (by decide) (by decide) (by decide) (by decide) (by decide) (by decide) (by decide +kernel))) <| .a 6 1 <| .nil _ _) ?_
  refine aw_d 15 (
    .a 4 2 <| .p (does_c (terrlaw1_at_ok 3000 2000)) <| .p (does_e true ((show (((Sp.ptx 0 0 1000 3000000) == 3000) && (((Sp.pty 0 1000 2000000) == 2000) && true)) = true from (by decide +kernel)))) <| .a 2 2 <| .nil _ _) ?_
  refine aw_rt ?_
  exact en_ret [.bool true] (by kernel_rfl)


end Go.Proofs.Ytcokagabchjilaa.Am
