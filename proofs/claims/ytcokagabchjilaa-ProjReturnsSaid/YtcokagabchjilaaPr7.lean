/-
  What is begun.
-/
import Derived.Test.YtcokagabchjilaaProg
import Derived.Test.YtcokagabchjilaaAm16
import Derived.Test.YtcokagabchjilaaPr3
import Derived.Test.YtcokagabchjilaaFr2
import Derived.Test.YtcokagabchjilaaSn8
namespace Go.Proofs.Ytcokagabchjilaa.Am
open Go Go.Proofs
set_option maxRecDepth 100000
set_option maxHeartbeats 4000000
set_option linter.unusedVariables false
set_option linter.unusedSimpArgs false

theorem terrkeep1_spanBegun_ok  :
    AC Try.prog 44 0 ([]) [] (.bool true) [] := by
  refine ac_in Try.func44 (fun w0 W pin => ?_)
  refine aw_p 3 (
    .a 1 1 <| .nil _ _) ?_
  refine aw_p 7 (
    .p (does_c (fof_ok (-1))) <| .p (does_c (fof_ok 2)) <| .a 1 1 <| .p (does_c (fof_ok (-3))) <| .p (does_c (fof_ok 5)) <| .a 1 1 <|
    .p (does_c ((by have h := smul_ok (-1) 1 (by decide) (by decide) (by decide) (by decide) 2 1 (by decide) (by decide) (by decide) (by decide) (-3) 1 (by decide) (by decide) (by decide) (by decide) 5 1 (by decide) (by decide) (by decide) (by decide); rw [show (Sp.m4n ((Sp.sl (-1) 1 2 1) * (Sp.sl (-3) 1 5 1)) ((Sp.sl (-1) 1 2 1) * (Sp.sh (-3) 1 5 1)) ((Sp.sh (-1) 1 2 1) * (Sp.sl (-3) 1 5 1)) ((Sp.sh (-1) 1 2 1) * (Sp.sh (-3) 1 5 1)) : Int) = (-6) from by decide +kernel, show (Sp.m4d ((Sp.sl (-1) 1 2 1) * (Sp.sl (-3) 1 5 1)) ((Sp.sl (-1) 1 2 1) * (Sp.sh (-3) 1 5 1)) ((Sp.sh (-1) 1 2 1) * (Sp.sl (-3) 1 5 1)) ((Sp.sh (-1) 1 2 1) * (Sp.sh (-3) 1 5 1)) : Int) = 1 from by decide +kernel, show (Sp.x4n ((Sp.sl (-1) 1 2 1) * (Sp.sl (-3) 1 5 1)) ((Sp.sl (-1) 1 2 1) * (Sp.sh (-3) 1 5 1)) ((Sp.sh (-1) 1 2 1) * (Sp.sl (-3) 1 5 1)) ((Sp.sh (-1) 1 2 1) * (Sp.sh (-3) 1 5 1)) : Int) = 10 from by decide +kernel, show (Sp.x4d ((Sp.sl (-1) 1 2 1) * (Sp.sl (-3) 1 5 1)) ((Sp.sl (-1) 1 2 1) * (Sp.sh (-3) 1 5 1)) ((Sp.sh (-1) 1 2 1) * (Sp.sl (-3) 1 5 1)) ((Sp.sh (-1) 1 2 1) * (Sp.sh (-3) 1 5 1)) : Int) = 1 from by decide +kernel, show (Sp.e4 ((Sp.sl (-1) 1 2 1) * (Sp.sl (-3) 1 5 1)) ((Sp.sl (-1) 1 2 1) * (Sp.sh (-3) 1 5 1)) ((Sp.sh (-1) 1 2 1) * (Sp.sl (-3) 1 5 1)) ((Sp.sh (-1) 1 2 1) * (Sp.sh (-3) 1 5 1)) : Int) = 0 from by decide +kernel] at h; exact h))) <|
    .a 6 1 <| .nil _ _) ?_
  refine aw_d 15 (
    .p (does_c (terrkeep1_fracBegun_ok)) <| .a 6 2 <| .p (does_c (fof_ok (-6))) <| .p (does_c (fof_ok 10)) <| .a 1 2 <| .p (does_e true ((show ((((-6) == (-6)) && ((1 == 1) && true)) && (((10 == 10) && ((1 == 1) && true)) && true)) = true from by decide))) <| .a 3 2 <| .p (does_c (fof_ok 10)) <|
    .p (does_c ((by have h := shas_ok (-6) 1 (by decide) (by decide) (by decide) (by decide) 10 1 (by decide) (by decide) (by decide) (by decide) 10 1 (by decide) (by decide) (by decide) (by decide); rw [show Sp.inS (Sp.sl (-6) 1 10 1) (Sp.sh (-6) 1 10 1) (Sp.rv 10 1) = true from by decide +kernel] at h; exact h))) <|
    .a 3 2 <| .p (does_c (fof_ok 11)) <|
    .p (does_c ((by have h := shas_ok (-6) 1 (by decide) (by decide) (by decide) (by decide) 10 1 (by decide) (by decide) (by decide) (by decide) 11 1 (by decide) (by decide) (by decide) (by decide); rw [show Sp.inS (Sp.sl (-6) 1 10 1) (Sp.sh (-6) 1 10 1) (Sp.rv 11 1) = false from by decide +kernel] at h; exact h))) <|
    .a 3 2 <| .nil _ _) ?_
  refine aw_w [(0, .bool true), (1, .pointer (some ⟨1, 0, none⟩)), (3, .tuple #[.agg #[.int .i64 (-6), .int .i64 1, .int .i64 10, .int .i64 1], .int .i64 0]), (4, .agg #[.int .i64 (-1), .int .i64 1]), (5, .agg #[.int .i64 2, .int .i64 1]), (6, .agg #[.int .i64 (-1), .int .i64 1, .int .i64 2, .int .i64 1]), (7, .agg #[.int .i64 (-3), .int .i64 1]), (8, .agg #[.int .i64 5, .int .i64 1]), (9, .agg #[.int .i64 (-3), .int .i64 1, .int .i64 5, .int .i64 1]), (10, .tuple #[.agg #[.int .i64 (-6), .int .i64 1, .int .i64 10, .int .i64 1], .int .i64 0]), (11, .agg #[.int .i64 (-6), .int .i64 1, .int .i64 10, .int .i64 1]), (12, .int .i64 0)] [(1, ⟨[.int .i64 (-6), .int .i64 1, .int .i64 10, .int .i64 1], 27, true, 4⟩)] ?_
  refine aw_rt ?_
  exact en_ret [.bool true] (by kernel_rfl)

theorem terrkeep1_projBegun_ok  :
    AC Try.prog 8 0 ([]) [] (.bool true) [] := by
  refine ac_in Try.func8 (fun w0 W pin => ?_)
  refine aw_p 3 (
    .a 1 1 <| .nil _ _) ?_
  refine aw_p 7 (
    .a 1 1 <| .p (does_c (point_ok 0 0 1000 2000000 3000000 (by decide) (by decide) (by decide) (by decide) (by decide) (by decide) (by decide) (by decide) (by decide) (by decide) (by decide +kernel))) <| .a 6 1 <| .nil _ _) ?_
  refine aw_d 15 (
    .p (does_c (terrkeep1_spanBegun_ok)) <| .a 6 2 <| .p (does_c (terrkeep1_at_ok 3000 2000)) <| .p (does_e true ((show (((Sp.ptx 0 0 1000 3000000) == 3000) && (((Sp.pty 0 1000 2000000) == 2000) && true)) = true from (by decide +kernel)))) <| .a 2 2 <| .nil _ _) ?_
  refine aw_rt ?_
  exact en_ret [.bool true] (by kernel_rfl)


end Go.Proofs.Ytcokagabchjilaa.Am
