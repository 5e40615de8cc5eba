/-
  What is begun.
-/
import Derived.Test.YtigllakcfdoagaaProg
import Derived.Test.YtigllakcfdoagaaAm16
import Derived.Test.YtigllakcfdoagaaSg4
namespace Go.Proofs.Ytigllakcfdoagaa.Am
open Go Go.Proofs
set_option maxRecDepth 100000
set_option maxHeartbeats 4000000
set_option linter.unusedVariables false
set_option linter.unusedSimpArgs false

theorem terrlaw1_segBegun_ok  :
    AC Try.prog 19 0 ([]) [] (.bool true) [] := by
  refine ac_in Try.func19 (fun w0 W pin => ?_)
  refine aw_p 3 (
    .a 1 1 <| .nil _ _) ?_
  refine aw_p 7 (
    .p (does_c (terrlaw1_at_ok 0 0)) <| .p (does_c (terrlaw1_at_ok 1 1)) <| .p (does_c (terrlaw1_at_ok 0 1)) <| .p (does_c (terrlaw1_at_ok 1 0)) <|
    .p (does_c (segatX_in 0 0 1 1 0 1 1 0 (by decide) (by decide) (by decide) (by decide) (by decide) (by decide) (by decide) (by decide) (by decide) (by decide) (by decide) (by decide) (by decide) (by decide) (by decide) (by decide) (by decide +kernel))) <| .a 6 1 <| .nil _ _) ?_
  refine aw_p 15 (
    .a 7 2 <| .p (does_e true ((show ((((Sp.qn (Sp.cpx 0 0 1 1 0 1 1 0)) == 1) && (((Sp.qd (Sp.cpx 0 0 1 1 0 1 1 0)) == 2) && true)) && ((((Sp.qn (Sp.cpy 0 0 1 1 0 1 1 0)) == 1) && (((Sp.qd (Sp.cpy 0 0 1 1 0 1 1 0)) == 2) && true)) && true)) = true from (by decide +kernel)))) <| .a 2 2 <| .nil _ _) ?_
  refine aw_rt ?_
  exact en_ret [.bool true] (by kernel_rfl)

theorem terrkeep1_segBegun_ok  :
    AC Try.prog 15 0 ([]) [] (.bool true) [] := by
  refine ac_in Try.func15 (fun w0 W pin => ?_)
  refine aw_p 3 (
    .a 1 1 <| .nil _ _) ?_
  refine aw_p 7 (
    .p (does_c (terrkeep1_at_ok 0 0)) <| .p (does_c (terrkeep1_at_ok 1 1)) <| .p (does_c (terrkeep1_at_ok 0 1)) <| .p (does_c (terrkeep1_at_ok 1 0)) <|
    .p (does_c (segatX_in 0 0 1 1 0 1 1 0 (by decide) (by decide) (by decide) (by decide) (by decide) (by decide) (by decide) (by decide) (by decide) (by decide) (by decide) (by decide) (by decide) (by decide) (by decide) (by decide) (by decide +kernel))) <| .a 6 1 <| .nil _ _) ?_
  refine aw_p 15 (
    .p (does_c (terrkeep1_pointBegun_ok)) <| .a 9 2 <|
    .p (does_e true ((show ((((Sp.qn (Sp.cpx 0 0 1 1 0 1 1 0)) == 1) && (((Sp.qd (Sp.cpx 0 0 1 1 0 1 1 0)) == 2) && true)) && ((((Sp.qn (Sp.cpy 0 0 1 1 0 1 1 0)) == 1) && (((Sp.qd (Sp.cpy 0 0 1 1 0 1 1 0)) == 2) && true)) && true)) = true from (by decide +kernel)))) <| .a 2 2 <| .nil _ _) ?_
  refine aw_rt ?_
  exact en_ret [.bool true] (by kernel_rfl)


end Go.Proofs.Ytigllakcfdoagaa.Am
