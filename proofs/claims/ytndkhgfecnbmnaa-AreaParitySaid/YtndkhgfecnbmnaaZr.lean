/-
  What is asked ahead of the laws of rings: closed walks.
-/
import Derived.Test.YtndkhgfecnbmnaaProg
import Derived.Test.YtndkhgfecnbmnaaAm16
import Derived.Test.YtndkhgfecnbmnaaAm21
namespace Go.Proofs.Ytndkhgfecnbmnaa.Am
open Go Go.Proofs
set_option maxRecDepth 100000
set_option maxHeartbeats 4000000
set_option linter.unusedVariables false
set_option linter.unusedSimpArgs false

theorem au_terrkeep1_1  :
    AC Try.prog 49 0 ([.int .i64 0, .int .i64 0]) [] (.agg #[.int .i64 0, .int .i64 0]) [] := by
  refine ac_in Try.func49 (fun w0 W pin => ?_)
  refine aw_p 3 (
    .a 1 1 <| .nil _ _) ?_
  refine aw_p 7 (
    .a 4 2 <| .nil _ _) ?_
  refine aw_rt ?_
  exact en_ret [.agg #[.int .i64 0, .int .i64 0]] (by kernel_rfl)

theorem au_terrkeep1_2  :
    AC Try.prog 49 0 ([.int .i64 2, .int .i64 0]) [] (.agg #[.int .i64 2, .int .i64 0]) [] := by
  refine ac_in Try.func49 (fun w0 W pin => ?_)
  refine aw_p 3 (
    .a 1 1 <| .nil _ _) ?_
  refine aw_p 7 (
    .a 4 2 <| .nil _ _) ?_
  refine aw_rt ?_
  exact en_ret [.agg #[.int .i64 2, .int .i64 0]] (by kernel_rfl)

theorem au_terrkeep1_3  :
    AC Try.prog 49 0 ([.int .i64 2, .int .i64 2]) [] (.agg #[.int .i64 2, .int .i64 2]) [] := by
  refine ac_in Try.func49 (fun w0 W pin => ?_)
  refine aw_p 3 (
    .a 1 1 <| .nil _ _) ?_
  refine aw_p 7 (
    .a 4 2 <| .nil _ _) ?_
  refine aw_rt ?_
  exact en_ret [.agg #[.int .i64 2, .int .i64 2]] (by kernel_rfl)

theorem au_terrkeep1_4  :
    AC Try.prog 49 0 ([.int .i64 0, .int .i64 2]) [] (.agg #[.int .i64 0, .int .i64 2]) [] := by
  refine ac_in Try.func49 (fun w0 W pin => ?_)
  refine aw_p 3 (
    .a 1 1 <| .nil _ _) ?_
  refine aw_p 7 (
    .a 4 2 <| .nil _ _) ?_
  refine aw_rt ?_
  exact en_ret [.agg #[.int .i64 0, .int .i64 2]] (by kernel_rfl)

theorem au_terrkeep1_5  :
    AC Try.prog 49 0 ([.int .i64 1, .int .i64 1]) [] (.agg #[.int .i64 1, .int .i64 1]) [] := by
  refine ac_in Try.func49 (fun w0 W pin => ?_)
  refine aw_p 3 (
    .a 1 1 <| .nil _ _) ?_
  refine aw_p 7 (
    .a 4 2 <| .nil _ _) ?_
  refine aw_rt ?_
  exact en_ret [.agg #[.int .i64 1, .int .i64 1]] (by kernel_rfl)

theorem au_terrkeep1_6  :
    AC Try.prog 49 0 ([.int .i64 0, .int .i64 1]) [] (.agg #[.int .i64 0, .int .i64 1]) [] := by
  refine ac_in Try.func49 (fun w0 W pin => ?_)
  refine aw_p 3 (
    .a 1 1 <| .nil _ _) ?_
  refine aw_p 7 (
    .a 4 2 <| .nil _ _) ?_
  refine aw_rt ?_
  exact en_ret [.agg #[.int .i64 0, .int .i64 1]] (by kernel_rfl)

theorem au_terrkeep1_7  :
    AC Try.prog 49 0 ([.int .i64 1, .int .i64 0]) [] (.agg #[.int .i64 1, .int .i64 0]) [] := by
  refine ac_in Try.func49 (fun w0 W pin => ?_)
  refine aw_p 3 (
    .a 1 1 <| .nil _ _) ?_
  refine aw_p 7 (
    .a 4 2 <| .nil _ _) ?_
  refine aw_rt ?_
  exact en_ret [.agg #[.int .i64 1, .int .i64 0]] (by kernel_rfl)

theorem au_terrkeep1_8  :
    AC Try.prog 95 0 ([.int .i64 0, .int .i64 1048576]) [] (.int .i64 0) [] := by
  refine ac_in Try.func95 (fun w0 W pin => ?_)
  refine aw_p 3 (
    .a 1 1 <| .nil _ _) ?_
  refine aw_p 7 (
    .a 7 1 <| .nil _ _) ?_
  refine aw_rt ?_
  exact en_ret [.int .i64 0] (by kernel_rfl)

theorem au_terrkeep1_9  :
    AC Try.prog 55 0 ([.agg #[.int .i64 0, .int .i64 0]]) [] (.agg #[.int .i64 0, .int .i64 0]) [] := by
  refine ac_in Try.func55 (fun w0 W pin => ?_)
  refine aw_p 3 (
    .a 2 1 <| .nil _ _) ?_
  refine aw_d 7 (
    .a 2 3 <| .p (does_c (au_terrkeep1_8)) <| .a 2 3 <| .p (does_c (au_terrkeep1_8)) <| .a 2 3 <| .nil _ _) ?_
  refine aw_rt ?_
  exact en_ret [.agg #[.int .i64 0, .int .i64 0]] (by kernel_rfl)

theorem au_terrkeep1_10  :
    AC Try.prog 95 0 ([.int .i64 1, .int .i64 1048576]) [] (.int .i64 1) [] := by
  refine ac_in Try.func95 (fun w0 W pin => ?_)
  refine aw_p 3 (
    .a 1 1 <| .nil _ _) ?_
  refine aw_p 7 (
    .a 7 1 <| .nil _ _) ?_
  refine aw_rt ?_
  exact en_ret [.int .i64 1] (by kernel_rfl)

theorem au_terrkeep1_11  :
    AC Try.prog 55 0 ([.agg #[.int .i64 1, .int .i64 1]]) [] (.agg #[.int .i64 1, .int .i64 1]) [] := by
  refine ac_in Try.func55 (fun w0 W pin => ?_)
  refine aw_p 3 (
    .a 2 1 <| .nil _ _) ?_
  refine aw_d 7 (
    .a 2 3 <| .p (does_c (au_terrkeep1_10)) <| .a 2 3 <| .p (does_c (au_terrkeep1_10)) <| .a 2 3 <| .nil _ _) ?_
  refine aw_rt ?_
  exact en_ret [.agg #[.int .i64 1, .int .i64 1]] (by kernel_rfl)

theorem au_terrkeep1_12  :
    AC Try.prog 55 0 ([.agg #[.int .i64 0, .int .i64 1]]) [] (.agg #[.int .i64 0, .int .i64 1]) [] := by
  refine ac_in Try.func55 (fun w0 W pin => ?_)
  refine aw_p 3 (
    .a 2 1 <| .nil _ _) ?_
  refine aw_d 7 (
    .a 2 3 <| .p (does_c (au_terrkeep1_8)) <| .a 2 3 <| .p (does_c (au_terrkeep1_10)) <| .a 2 3 <| .nil _ _) ?_
  refine aw_rt ?_
  exact en_ret [.agg #[.int .i64 0, .int .i64 1]] (by kernel_rfl)

theorem au_terrkeep1_13  :
    AC Try.prog 55 0 ([.agg #[.int .i64 1, .int .i64 0]]) [] (.agg #[.int .i64 1, .int .i64 0]) [] := by
  refine ac_in Try.func55 (fun w0 W pin => ?_)
  refine aw_p 3 (
    .a 2 1 <| .nil _ _) ?_
  refine aw_d 7 (
    .a 2 3 <| .p (does_c (au_terrkeep1_10)) <| .a 2 3 <| .p (does_c (au_terrkeep1_8)) <| .a 2 3 <| .nil _ _) ?_
  refine aw_rt ?_
  exact en_ret [.agg #[.int .i64 1, .int .i64 0]] (by kernel_rfl)

theorem au_terrkeep1_14  :
    AC Try.prog 118 0 ([.agg #[.int .i64 0, .int .i64 0], .agg #[.int .i64 1, .int .i64 1]]) [] (.agg #[.int .i64 1, .int .i64 1]) [] := by
  refine ac_in Try.func118 (fun w0 W pin => ?_)
  refine aw_p 3 (
    .a 3 1 <| .nil _ _) ?_
  refine aw_d 7 (
    .a 1 4 <| .p (does_c (au_terrkeep1_9)) <| .a 1 4 <| .p (does_c (au_terrkeep1_11)) <| .a 2 4 <| .nil _ _) ?_
  refine aw_p 15 (
    .a 12 4 <| .nil _ _) ?_
  refine aw_rt ?_
  exact en_ret [.agg #[.int .i64 1, .int .i64 1]] (by kernel_rfl)

theorem au_terrkeep1_15  :
    AC Try.prog 118 0 ([.agg #[.int .i64 0, .int .i64 0], .agg #[.int .i64 0, .int .i64 1]]) [] (.agg #[.int .i64 0, .int .i64 1]) [] := by
  refine ac_in Try.func118 (fun w0 W pin => ?_)
  refine aw_p 3 (
    .a 3 1 <| .nil _ _) ?_
  refine aw_d 7 (
    .a 1 4 <| .p (does_c (au_terrkeep1_9)) <| .a 1 4 <| .p (does_c (au_terrkeep1_12)) <| .a 2 4 <| .nil _ _) ?_
  refine aw_p 15 (
    .a 12 4 <| .nil _ _) ?_
  refine aw_rt ?_
  exact en_ret [.agg #[.int .i64 0, .int .i64 1]] (by kernel_rfl)

theorem au_terrkeep1_16  :
    AC Try.prog 87 0 ([.agg #[.int .i64 0, .int .i64 0], .agg #[.int .i64 1, .int .i64 1], .agg #[.int .i64 0, .int .i64 1]]) [] (.int .i64 1) [] := by
  refine ac_in Try.func87 (fun w0 W pin => ?_)
  refine aw_p 3 (
    .a 4 1 <| .nil _ _) ?_
  refine aw_d 7 (
    .a 2 4 <| .p (does_c (au_terrkeep1_14)) <| .a 2 4 <| .p (does_c (au_terrkeep1_15)) <| .a 4 4 <| .nil _ _) ?_
  refine aw_p 15 (
    .a 12 6 <| .nil _ _) ?_
  refine aw_w [(0, .agg #[.int .i64 0, .int .i64 0]), (1, .agg #[.int .i64 1, .int .i64 1]), (2, .agg #[.int .i64 0, .int .i64 1]), (3, .pointer (some ⟨1, 0, none⟩)), (4, .pointer (some ⟨2, 0, none⟩)), (5, .pointer (some ⟨3, 0, none⟩)), (6, .int .i64 1), (7, .pointer (some ⟨4, 0, none⟩)), (8, .pointer (some ⟨5, 0, none⟩)), (9, .agg #[.int .i64 0, .int .i64 0]), (10, .agg #[.int .i64 1, .int .i64 1]), (11, .agg #[.int .i64 1, .int .i64 1]), (12, .agg #[.int .i64 0, .int .i64 0]), (13, .agg #[.int .i64 0, .int .i64 1]), (14, .agg #[.int .i64 0, .int .i64 1])] [(1, ⟨[.int .i64 0, .int .i64 0], 28, true, 2⟩), (2, ⟨[.int .i64 1, .int .i64 1], 28, true, 2⟩), (3, ⟨[.int .i64 0, .int .i64 1], 28, true, 2⟩), (4, ⟨[.int .i64 1, .int .i64 1], 28, true, 2⟩), (5, ⟨[.int .i64 0, .int .i64 1], 28, true, 2⟩)] ?_
  refine aw_rt ?_
  exact en_ret [.int .i64 1] (by kernel_rfl)

theorem au_terrkeep1_17  :
    AC Try.prog 120 0 ([.int .i64 1]) [] (.bool false) [] := by
  refine ac_in Try.func120 (fun w0 W pin => ?_)
  refine aw_p 3 (
    .a 1 1 <| .nil _ _) ?_
  refine aw_p 7 (
    .a 4 1 <| .nil _ _) ?_
  refine aw_rt ?_
  exact en_ret [.bool false] (by kernel_rfl)

theorem au_terrkeep1_18  :
    AC Try.prog 120 0 ([.int .i64 0]) [] (.bool false) [] := by
  refine ac_in Try.func120 (fun w0 W pin => ?_)
  refine aw_p 3 (
    .a 1 1 <| .nil _ _) ?_
  refine aw_p 7 (
    .a 4 1 <| .nil _ _) ?_
  refine aw_rt ?_
  exact en_ret [.bool false] (by kernel_rfl)

theorem au_terrkeep1_19  :
    AC Try.prog 97 0 ([.int .i64 1, .int .i64 0]) [] (.int .i64 1) [] := by
  refine ac_in Try.func97 (fun w0 W pin => ?_)
  refine aw_p 3 (
    .a 1 1 <| .nil _ _) ?_
  refine aw_p 7 (
    .a 1 1 <| .p (does_c (au_terrkeep1_17)) <| .a 1 1 <| .nil _ _) ?_
  refine aw_p 15 (
    .a 1 1 <| .p (does_c (au_terrkeep1_18)) <| .a 1 1 <| .nil _ _) ?_
  refine aw_sq 30 31 ?_
  refine aw_p 61 (
    .a 1 1 <| .nil _ _) ?_
  refine aw_fl 123 ?_
  refine aw_sk ?_
  refine then_normal ?_
  refine aw_sq 62 63 ?_
  refine aw_p 125 (
    .a 1 1 <| .nil _ _) ?_
  refine aw_fl 251 ?_
  refine aw_sk ?_
  refine then_normal ?_
  refine aw_sq 126 127 ?_
  refine aw_p 253 (
    .a 3 1 <| .nil _ _) ?_
  refine aw_fl 507 ?_
  refine aw_sk ?_
  refine then_normal ?_
  refine aw_sq 254 255 ?_
  refine aw_p 509 (
    .a 3 1 <| .nil _ _) ?_
  refine aw_tr 1018 ?_
  refine aw_p 2037 (
    .a 1 1 <| .nil _ _) ?_
  refine aw_rt ?_
  refine then_ret ?_
  exact en_ret [.int .i64 1] (by kernel_rfl)

theorem au_terrkeep1_20  :
    AC Try.prog 57 0 ([.agg #[.int .i64 0, .int .i64 0], .agg #[.int .i64 1, .int .i64 1], .agg #[.int .i64 0, .int .i64 1]]) [] (.int .i64 1) [] := by
  refine ac_in Try.func57 (fun w0 W pin => ?_)
  refine aw_p 3 (
    .a 4 1 <| .nil _ _) ?_
  refine aw_p 7 (
    .a 3 4 <| .p (does_c (au_terrkeep1_16)) <| .p (does_c (au_terrkeep1_19)) <| .a 1 4 <| .nil _ _) ?_
  refine aw_rt ?_
  exact en_ret [.int .i64 1] (by kernel_rfl)

theorem au_terrkeep1_21  :
    AC Try.prog 118 0 ([.agg #[.int .i64 0, .int .i64 0], .agg #[.int .i64 1, .int .i64 0]]) [] (.agg #[.int .i64 1, .int .i64 0]) [] := by
  refine ac_in Try.func118 (fun w0 W pin => ?_)
  refine aw_p 3 (
    .a 3 1 <| .nil _ _) ?_
  refine aw_d 7 (
    .a 1 4 <| .p (does_c (au_terrkeep1_9)) <| .a 1 4 <| .p (does_c (au_terrkeep1_13)) <| .a 2 4 <| .nil _ _) ?_
  refine aw_p 15 (
    .a 12 4 <| .nil _ _) ?_
  refine aw_rt ?_
  exact en_ret [.agg #[.int .i64 1, .int .i64 0]] (by kernel_rfl)

theorem au_terrkeep1_22  :
    AC Try.prog 87 0 ([.agg #[.int .i64 0, .int .i64 0], .agg #[.int .i64 1, .int .i64 1], .agg #[.int .i64 1, .int .i64 0]]) [] (.int .i64 (-1)) [] := by
  refine ac_in Try.func87 (fun w0 W pin => ?_)
  refine aw_p 3 (
    .a 4 1 <| .nil _ _) ?_
  refine aw_d 7 (
    .a 2 4 <| .p (does_c (au_terrkeep1_14)) <| .a 2 4 <| .p (does_c (au_terrkeep1_21)) <| .a 4 4 <| .nil _ _) ?_
  refine aw_p 15 (
    .a 12 6 <| .nil _ _) ?_
  refine aw_w [(0, .agg #[.int .i64 0, .int .i64 0]), (1, .agg #[.int .i64 1, .int .i64 1]), (2, .agg #[.int .i64 1, .int .i64 0]), (3, .pointer (some ⟨1, 0, none⟩)), (4, .pointer (some ⟨2, 0, none⟩)), (5, .pointer (some ⟨3, 0, none⟩)), (6, .int .i64 (-1)), (7, .pointer (some ⟨4, 0, none⟩)), (8, .pointer (some ⟨5, 0, none⟩)), (9, .agg #[.int .i64 0, .int .i64 0]), (10, .agg #[.int .i64 1, .int .i64 1]), (11, .agg #[.int .i64 1, .int .i64 1]), (12, .agg #[.int .i64 0, .int .i64 0]), (13, .agg #[.int .i64 1, .int .i64 0]), (14, .agg #[.int .i64 1, .int .i64 0])] [(1, ⟨[.int .i64 0, .int .i64 0], 28, true, 2⟩), (2, ⟨[.int .i64 1, .int .i64 1], 28, true, 2⟩), (3, ⟨[.int .i64 1, .int .i64 0], 28, true, 2⟩), (4, ⟨[.int .i64 1, .int .i64 1], 28, true, 2⟩), (5, ⟨[.int .i64 1, .int .i64 0], 28, true, 2⟩)] ?_
  refine aw_rt ?_
  exact en_ret [.int .i64 (-1)] (by kernel_rfl)

theorem au_terrkeep1_23  :
    AC Try.prog 120 0 ([.int .i64 (-1)]) [] (.bool false) [] := by
  refine ac_in Try.func120 (fun w0 W pin => ?_)
  refine aw_p 3 (
    .a 1 1 <| .nil _ _) ?_
  refine aw_p 7 (
    .a 4 1 <| .nil _ _) ?_
  refine aw_rt ?_
  exact en_ret [.bool false] (by kernel_rfl)

theorem au_terrkeep1_24  :
    AC Try.prog 97 0 ([.int .i64 (-1), .int .i64 0]) [] (.int .i64 (-1)) [] := by
  refine ac_in Try.func97 (fun w0 W pin => ?_)
  refine aw_p 3 (
    .a 1 1 <| .nil _ _) ?_
  refine aw_p 7 (
    .a 1 1 <| .p (does_c (au_terrkeep1_23)) <| .a 1 1 <| .nil _ _) ?_
  refine aw_p 15 (
    .a 1 1 <| .p (does_c (au_terrkeep1_18)) <| .a 1 1 <| .nil _ _) ?_
  refine aw_sq 30 31 ?_
  refine aw_p 61 (
    .a 1 1 <| .nil _ _) ?_
  refine aw_fl 123 ?_
  refine aw_sk ?_
  refine then_normal ?_
  refine aw_sq 62 63 ?_
  refine aw_p 125 (
    .a 1 1 <| .nil _ _) ?_
  refine aw_fl 251 ?_
  refine aw_sk ?_
  refine then_normal ?_
  refine aw_sq 126 127 ?_
  refine aw_p 253 (
    .a 3 1 <| .nil _ _) ?_
  refine aw_tr 506 ?_
  refine aw_p 1013 (
    .a 1 1 <| .nil _ _) ?_
  refine aw_rt ?_
  refine then_ret ?_
  exact en_ret [.int .i64 (-1)] (by kernel_rfl)

theorem au_terrkeep1_25  :
    AC Try.prog 57 0 ([.agg #[.int .i64 0, .int .i64 0], .agg #[.int .i64 1, .int .i64 1], .agg #[.int .i64 1, .int .i64 0]]) [] (.int .i64 (-1)) [] := by
  refine ac_in Try.func57 (fun w0 W pin => ?_)
  refine aw_p 3 (
    .a 4 1 <| .nil _ _) ?_
  refine aw_p 7 (
    .a 3 4 <| .p (does_c (au_terrkeep1_22)) <| .p (does_c (au_terrkeep1_24)) <| .a 1 4 <| .nil _ _) ?_
  refine aw_rt ?_
  exact en_ret [.int .i64 (-1)] (by kernel_rfl)

theorem au_terrkeep1_26  :
    AC Try.prog 118 0 ([.agg #[.int .i64 0, .int .i64 1], .agg #[.int .i64 1, .int .i64 0]]) [] (.agg #[.int .i64 1, .int .i64 (-1)]) [] := by
  refine ac_in Try.func118 (fun w0 W pin => ?_)
  refine aw_p 3 (
    .a 3 1 <| .nil _ _) ?_
  refine aw_d 7 (
    .a 1 4 <| .p (does_c (au_terrkeep1_12)) <| .a 1 4 <| .p (does_c (au_terrkeep1_13)) <| .a 2 4 <| .nil _ _) ?_
  refine aw_p 15 (
    .a 12 4 <| .nil _ _) ?_
  refine aw_rt ?_
  exact en_ret [.agg #[.int .i64 1, .int .i64 (-1)]] (by kernel_rfl)

theorem au_terrkeep1_27  :
    AC Try.prog 118 0 ([.agg #[.int .i64 0, .int .i64 1], .agg #[.int .i64 0, .int .i64 0]]) [] (.agg #[.int .i64 0, .int .i64 (-1)]) [] := by
  refine ac_in Try.func118 (fun w0 W pin => ?_)
  refine aw_p 3 (
    .a 3 1 <| .nil _ _) ?_
  refine aw_d 7 (
    .a 1 4 <| .p (does_c (au_terrkeep1_12)) <| .a 1 4 <| .p (does_c (au_terrkeep1_9)) <| .a 2 4 <| .nil _ _) ?_
  refine aw_p 15 (
    .a 12 4 <| .nil _ _) ?_
  refine aw_rt ?_
  exact en_ret [.agg #[.int .i64 0, .int .i64 (-1)]] (by kernel_rfl)

theorem au_terrkeep1_28  :
    AC Try.prog 87 0 ([.agg #[.int .i64 0, .int .i64 1], .agg #[.int .i64 1, .int .i64 0], .agg #[.int .i64 0, .int .i64 0]]) [] (.int .i64 (-1)) [] := by
  refine ac_in Try.func87 (fun w0 W pin => ?_)
  refine aw_p 3 (
    .a 4 1 <| .nil _ _) ?_
  refine aw_d 7 (
    .a 2 4 <| .p (does_c (au_terrkeep1_26)) <| .a 2 4 <| .p (does_c (au_terrkeep1_27)) <| .a 4 4 <| .nil _ _) ?_
  refine aw_p 15 (
    .a 12 6 <| .nil _ _) ?_
  refine aw_w [(0, .agg #[.int .i64 0, .int .i64 1]), (1, .agg #[.int .i64 1, .int .i64 0]), (2, .agg #[.int .i64 0, .int .i64 0]), (3, .pointer (some ⟨1, 0, none⟩)), (4, .pointer (some ⟨2, 0, none⟩)), (5, .pointer (some ⟨3, 0, none⟩)), (6, .int .i64 (-1)), (7, .pointer (some ⟨4, 0, none⟩)), (8, .pointer (some ⟨5, 0, none⟩)), (9, .agg #[.int .i64 0, .int .i64 1]), (10, .agg #[.int .i64 1, .int .i64 0]), (11, .agg #[.int .i64 1, .int .i64 (-1)]), (12, .agg #[.int .i64 0, .int .i64 1]), (13, .agg #[.int .i64 0, .int .i64 0]), (14, .agg #[.int .i64 0, .int .i64 (-1)])] [(1, ⟨[.int .i64 0, .int .i64 1], 28, true, 2⟩), (2, ⟨[.int .i64 1, .int .i64 0], 28, true, 2⟩), (3, ⟨[.int .i64 0, .int .i64 0], 28, true, 2⟩), (4, ⟨[.int .i64 1, .int .i64 (-1)], 28, true, 2⟩), (5, ⟨[.int .i64 0, .int .i64 (-1)], 28, true, 2⟩)] ?_
  refine aw_rt ?_
  exact en_ret [.int .i64 (-1)] (by kernel_rfl)

theorem au_terrkeep1_29  :
    AC Try.prog 57 0 ([.agg #[.int .i64 0, .int .i64 1], .agg #[.int .i64 1, .int .i64 0], .agg #[.int .i64 0, .int .i64 0]]) [] (.int .i64 (-1)) [] := by
  refine ac_in Try.func57 (fun w0 W pin => ?_)
  refine aw_p 3 (
    .a 4 1 <| .nil _ _) ?_
  refine aw_p 7 (
    .a 3 4 <| .p (does_c (au_terrkeep1_28)) <| .p (does_c (au_terrkeep1_24)) <| .a 1 4 <| .nil _ _) ?_
  refine aw_rt ?_
  exact en_ret [.int .i64 (-1)] (by kernel_rfl)

theorem au_terrkeep1_30  :
    AC Try.prog 118 0 ([.agg #[.int .i64 0, .int .i64 1], .agg #[.int .i64 1, .int .i64 1]]) [] (.agg #[.int .i64 1, .int .i64 0]) [] := by
  refine ac_in Try.func118 (fun w0 W pin => ?_)
  refine aw_p 3 (
    .a 3 1 <| .nil _ _) ?_
  refine aw_d 7 (
    .a 1 4 <| .p (does_c (au_terrkeep1_12)) <| .a 1 4 <| .p (does_c (au_terrkeep1_11)) <| .a 2 4 <| .nil _ _) ?_
  refine aw_p 15 (
    .a 12 4 <| .nil _ _) ?_
  refine aw_rt ?_
  exact en_ret [.agg #[.int .i64 1, .int .i64 0]] (by kernel_rfl)

theorem au_terrkeep1_31  :
    AC Try.prog 87 0 ([.agg #[.int .i64 0, .int .i64 1], .agg #[.int .i64 1, .int .i64 0], .agg #[.int .i64 1, .int .i64 1]]) [] (.int .i64 1) [] := by
  refine ac_in Try.func87 (fun w0 W pin => ?_)
  refine aw_p 3 (
    .a 4 1 <| .nil _ _) ?_
  refine aw_d 7 (
    .a 2 4 <| .p (does_c (au_terrkeep1_26)) <| .a 2 4 <| .p (does_c (au_terrkeep1_30)) <| .a 4 4 <| .nil _ _) ?_
  refine aw_p 15 (
    .a 12 6 <| .nil _ _) ?_
  refine aw_w [(0, .agg #[.int .i64 0, .int .i64 1]), (1, .agg #[.int .i64 1, .int .i64 0]), (2, .agg #[.int .i64 1, .int .i64 1]), (3, .pointer (some ⟨1, 0, none⟩)), (4, .pointer (some ⟨2, 0, none⟩)), (5, .pointer (some ⟨3, 0, none⟩)), (6, .int .i64 1), (7, .pointer (some ⟨4, 0, none⟩)), (8, .pointer (some ⟨5, 0, none⟩)), (9, .agg #[.int .i64 0, .int .i64 1]), (10, .agg #[.int .i64 1, .int .i64 0]), (11, .agg #[.int .i64 1, .int .i64 (-1)]), (12, .agg #[.int .i64 0, .int .i64 1]), (13, .agg #[.int .i64 1, .int .i64 1]), (14, .agg #[.int .i64 1, .int .i64 0])] [(1, ⟨[.int .i64 0, .int .i64 1], 28, true, 2⟩), (2, ⟨[.int .i64 1, .int .i64 0], 28, true, 2⟩), (3, ⟨[.int .i64 1, .int .i64 1], 28, true, 2⟩), (4, ⟨[.int .i64 1, .int .i64 (-1)], 28, true, 2⟩), (5, ⟨[.int .i64 1, .int .i64 0], 28, true, 2⟩)] ?_
  refine aw_rt ?_
  exact en_ret [.int .i64 1] (by kernel_rfl)

theorem au_terrkeep1_32  :
    AC Try.prog 57 0 ([.agg #[.int .i64 0, .int .i64 1], .agg #[.int .i64 1, .int .i64 0], .agg #[.int .i64 1, .int .i64 1]]) [] (.int .i64 1) [] := by
  refine ac_in Try.func57 (fun w0 W pin => ?_)
  refine aw_p 3 (
    .a 4 1 <| .nil _ _) ?_
  refine aw_p 7 (
    .a 3 4 <| .p (does_c (au_terrkeep1_31)) <| .p (does_c (au_terrkeep1_19)) <| .a 1 4 <| .nil _ _) ?_
  refine aw_rt ?_
  exact en_ret [.int .i64 1] (by kernel_rfl)

theorem au_terrkeep1_33  :
    AC Try.prog 109 0 ([.agg #[.int .i64 0, .int .i64 0], .agg #[.int .i64 1, .int .i64 1], .agg #[.int .i64 0, .int .i64 1], .agg #[.int .i64 1, .int .i64 0]]) [] (.int .i64 1) [] := by
  refine ac_in Try.func109 (fun w0 W pin => ?_)
  refine aw_p 3 (
    .a 5 1 <| .nil _ _) ?_
  refine aw_d 7 (
    .a 1 5 <| .p (does_c (au_terrkeep1_9)) <| .a 1 5 <| .p (does_c (au_terrkeep1_11)) <| .a 1 5 <| .p (does_c (au_terrkeep1_12)) <| .a 1 5 <| .p (does_c (au_terrkeep1_13)) <| .a 4 5 <| .nil _ _) ?_
  refine aw_sq 14 15 ?_
  refine aw_d 29 (
    .a 3 5 <| .p (does_c (au_terrkeep1_20)) <| .a 3 5 <| .p (does_c (au_terrkeep1_25)) <| .a 6 5 <| .p (does_c (au_terrkeep1_29)) <| .a 3 5 <| .p (does_c (au_terrkeep1_32)) <| .a 3 5 <| .nil _ _) ?_
  refine aw_w [(0, .agg #[.int .i64 0, .int .i64 0]), (1, .agg #[.int .i64 1, .int .i64 1]), (2, .agg #[.int .i64 0, .int .i64 1]), (3, .agg #[.int .i64 1, .int .i64 0]), (4, .pointer (some ⟨1, 0, none⟩)), (5, .pointer (some ⟨2, 0, none⟩)), (6, .pointer (some ⟨3, 0, none⟩)), (7, .pointer (some ⟨4, 0, none⟩)), (8, .int .i64 0), (9, .agg #[.int .i64 0, .int .i64 0]), (10, .agg #[.int .i64 0, .int .i64 0]), (11, .agg #[.int .i64 1, .int .i64 1]), (12, .agg #[.int .i64 1, .int .i64 1]), (13, .agg #[.int .i64 0, .int .i64 1]), (14, .agg #[.int .i64 0, .int .i64 1]), (15, .agg #[.int .i64 1, .int .i64 0]), (16, .agg #[.int .i64 1, .int .i64 0]), (38, .bool true)] [(1, ⟨[.int .i64 0, .int .i64 0], 28, true, 2⟩), (2, ⟨[.int .i64 1, .int .i64 1], 28, true, 2⟩), (3, ⟨[.int .i64 0, .int .i64 1], 28, true, 2⟩), (4, ⟨[.int .i64 1, .int .i64 0], 28, true, 2⟩)] ?_
  refine aw_tr 58 ?_
  refine aw_p 117 (
    .a 1 5 <| .nil _ _) ?_
  refine aw_rt ?_
  refine then_ret ?_
  exact en_ret [.int .i64 1] (by kernel_rfl)

theorem au_terrkeep1_34  :
    AC Try.prog 56 0 ([.agg #[.int .i64 0, .int .i64 1], .agg #[.int .i64 1, .int .i64 0], .agg #[.int .i64 0, .int .i64 0]]) [] (.bool false) [] := by
  refine ac_in Try.func56 (fun w0 W pin => ?_)
  refine aw_p 3 (
    .a 4 1 <| .nil _ _) ?_
  refine aw_p 7 (
    .a 3 4 <| .p (does_c (au_terrkeep1_29)) <| .a 9 4 <| .nil _ _) ?_
  refine aw_rt ?_
  exact en_ret [.bool false] (by kernel_rfl)

theorem au_terrkeep1_35  :
    AC Try.prog 136 1 ([.agg #[.int .i64 0, .int .i64 0], .agg #[.int .i64 0, .int .i64 1], .agg #[.int .i64 1, .int .i64 0], .pointer (some ⟨0, 0, none⟩)]) [(0, ⟨[.slice none 0 0], 30, true, 1⟩)] (.tuple #[]) [(0, ⟨[.slice none 0 0], 30, true, 1⟩)] := by
  refine ac_in Try.func136 (fun w0 W pin => ?_)
  refine aw_p 3 (
    .a 3 1 <| .nil _ _) ?_
  refine aw_sq 6 7 ?_
  refine aw_p 13 (
    .a 3 4 <| .p (does_c (au_terrkeep1_34)) <| .a 1 4 <| .nil _ _) ?_
  refine aw_tr 26 ?_
  refine aw_rt ?_
  refine then_ret ?_
  exact en_ret [] (by kernel_rfl)

theorem au_terrkeep1_36  :
    AC Try.prog 56 0 ([.agg #[.int .i64 0, .int .i64 1], .agg #[.int .i64 1, .int .i64 0], .agg #[.int .i64 1, .int .i64 1]]) [] (.bool false) [] := by
  refine ac_in Try.func56 (fun w0 W pin => ?_)
  refine aw_p 3 (
    .a 4 1 <| .nil _ _) ?_
  refine aw_p 7 (
    .a 3 4 <| .p (does_c (au_terrkeep1_32)) <| .a 9 4 <| .nil _ _) ?_
  refine aw_rt ?_
  exact en_ret [.bool false] (by kernel_rfl)

theorem au_terrkeep1_37  :
    AC Try.prog 136 1 ([.agg #[.int .i64 1, .int .i64 1], .agg #[.int .i64 0, .int .i64 1], .agg #[.int .i64 1, .int .i64 0], .pointer (some ⟨0, 0, none⟩)]) [(0, ⟨[.slice none 0 0], 30, true, 1⟩)] (.tuple #[]) [(0, ⟨[.slice none 0 0], 30, true, 1⟩)] := by
  refine ac_in Try.func136 (fun w0 W pin => ?_)
  refine aw_p 3 (
    .a 3 1 <| .nil _ _) ?_
  refine aw_sq 6 7 ?_
  refine aw_p 13 (
    .a 3 4 <| .p (does_c (au_terrkeep1_36)) <| .a 1 4 <| .nil _ _) ?_
  refine aw_tr 26 ?_
  refine aw_rt ?_
  refine then_ret ?_
  exact en_ret [] (by kernel_rfl)

theorem au_terrkeep1_38  :
    AC Try.prog 56 0 ([.agg #[.int .i64 0, .int .i64 0], .agg #[.int .i64 1, .int .i64 1], .agg #[.int .i64 0, .int .i64 1]]) [] (.bool false) [] := by
  refine ac_in Try.func56 (fun w0 W pin => ?_)
  refine aw_p 3 (
    .a 4 1 <| .nil _ _) ?_
  refine aw_p 7 (
    .a 3 4 <| .p (does_c (au_terrkeep1_20)) <| .a 9 4 <| .nil _ _) ?_
  refine aw_rt ?_
  exact en_ret [.bool false] (by kernel_rfl)

theorem au_terrkeep1_39  :
    AC Try.prog 136 1 ([.agg #[.int .i64 0, .int .i64 1], .agg #[.int .i64 0, .int .i64 0], .agg #[.int .i64 1, .int .i64 1], .pointer (some ⟨0, 0, none⟩)]) [(0, ⟨[.slice none 0 0], 30, true, 1⟩)] (.tuple #[]) [(0, ⟨[.slice none 0 0], 30, true, 1⟩)] := by
  refine ac_in Try.func136 (fun w0 W pin => ?_)
  refine aw_p 3 (
    .a 3 1 <| .nil _ _) ?_
  refine aw_sq 6 7 ?_
  refine aw_p 13 (
    .a 3 4 <| .p (does_c (au_terrkeep1_38)) <| .a 1 4 <| .nil _ _) ?_
  refine aw_tr 26 ?_
  refine aw_rt ?_
  refine then_ret ?_
  exact en_ret [] (by kernel_rfl)

theorem au_terrkeep1_40  :
    AC Try.prog 56 0 ([.agg #[.int .i64 0, .int .i64 0], .agg #[.int .i64 1, .int .i64 1], .agg #[.int .i64 1, .int .i64 0]]) [] (.bool false) [] := by
  refine ac_in Try.func56 (fun w0 W pin => ?_)
  refine aw_p 3 (
    .a 4 1 <| .nil _ _) ?_
  refine aw_p 7 (
    .a 3 4 <| .p (does_c (au_terrkeep1_25)) <| .a 9 4 <| .nil _ _) ?_
  refine aw_rt ?_
  exact en_ret [.bool false] (by kernel_rfl)

theorem au_terrkeep1_41  :
    AC Try.prog 136 1 ([.agg #[.int .i64 1, .int .i64 0], .agg #[.int .i64 0, .int .i64 0], .agg #[.int .i64 1, .int .i64 1], .pointer (some ⟨0, 0, none⟩)]) [(0, ⟨[.slice none 0 0], 30, true, 1⟩)] (.tuple #[]) [(0, ⟨[.slice none 0 0], 30, true, 1⟩)] := by
  refine ac_in Try.func136 (fun w0 W pin => ?_)
  refine aw_p 3 (
    .a 3 1 <| .nil _ _) ?_
  refine aw_sq 6 7 ?_
  refine aw_p 13 (
    .a 3 4 <| .p (does_c (au_terrkeep1_40)) <| .a 1 4 <| .nil _ _) ?_
  refine aw_tr 26 ?_
  refine aw_rt ?_
  refine then_ret ?_
  exact en_ret [] (by kernel_rfl)

theorem au_terrkeep1_42  :
    AC Try.prog 110 0 ([.agg #[.int .i64 0, .int .i64 0], .agg #[.int .i64 1, .int .i64 1], .agg #[.int .i64 0, .int .i64 1], .agg #[.int .i64 1, .int .i64 0]]) [] (.slice none 0 0) [] := by
  refine ac_in Try.func110 (fun w0 W pin => ?_)
  refine aw_p 3 (
    .a 5 1 <| .nil _ _) ?_
  refine aw_p 7 (
    .a 1 5 <| .nil _ _) ?_
  refine aw_p 15 (
    .a 2 6 <| .nil _ _) ?_
  refine aw_p 31 (
    .a 4 6 <| .p (does_k [5] (au_terrkeep1_35)) <| .nil _ _) ?_
  refine aw_p 63 (
    .a 4 6 <| .p (does_k [5] (au_terrkeep1_37)) <| .nil _ _) ?_
  refine aw_p 127 (
    .a 4 6 <| .p (does_k [5] (au_terrkeep1_39)) <| .nil _ _) ?_
  refine aw_p 255 (
    .a 4 6 <| .p (does_k [5] (au_terrkeep1_41)) <| .nil _ _) ?_
  refine aw_w [(0, .agg #[.int .i64 0, .int .i64 0]), (1, .agg #[.int .i64 1, .int .i64 1]), (2, .agg #[.int .i64 0, .int .i64 1]), (3, .agg #[.int .i64 1, .int .i64 0]), (4, .pointer (some ⟨1, 0, none⟩)), (5, .pointer (some ⟨2, 0, none⟩)), (6, .pointer (some ⟨3, 0, none⟩)), (7, .pointer (some ⟨4, 0, none⟩)), (8, .slice none 0 0), (9, .pointer (some ⟨5, 0, none⟩)), (10, .func (.func 136) #[] #[.pointer (some ⟨5, 0, none⟩)]), (11, .func (.func 136) #[] #[.pointer (some ⟨5, 0, none⟩)]), (12, .func (.func 136) #[] #[.pointer (some ⟨5, 0, none⟩)]), (13, .agg #[.int .i64 0, .int .i64 0]), (14, .agg #[.int .i64 0, .int .i64 1]), (15, .agg #[.int .i64 1, .int .i64 0]), (17, .func (.func 136) #[] #[.pointer (some ⟨5, 0, none⟩)]), (18, .agg #[.int .i64 1, .int .i64 1]), (19, .agg #[.int .i64 0, .int .i64 1]), (20, .agg #[.int .i64 1, .int .i64 0]), (22, .func (.func 136) #[] #[.pointer (some ⟨5, 0, none⟩)]), (23, .agg #[.int .i64 0, .int .i64 1]), (24, .agg #[.int .i64 0, .int .i64 0]), (25, .agg #[.int .i64 1, .int .i64 1])] [(1, ⟨[.int .i64 0, .int .i64 0], 28, true, 2⟩), (2, ⟨[.int .i64 1, .int .i64 1], 28, true, 2⟩), (3, ⟨[.int .i64 0, .int .i64 1], 28, true, 2⟩), (4, ⟨[.int .i64 1, .int .i64 0], 28, true, 2⟩), (5, ⟨[.slice none 0 0], 30, true, 1⟩)] ?_
  refine aw_p 511 (
    .a 2 6 <| .nil _ _) ?_
  refine aw_rt ?_
  exact en_ret [.slice none 0 0] (by kernel_rfl)

theorem au_terrkeep1_43  :
    AC Try.prog 113 0 ([.int .u64 1, .int .u64 1]) [] (.tuple #[.int .u64 0, .int .u64 1]) [] := by
  refine ac_in Try.func113 (fun w0 W pin => ?_)
  refine aw_p 3 (
    .a 2 1 <| .nil _ _) ?_
  refine aw_p 7 (
    .a 3 1 <| .nil _ _) ?_
  refine aw_p 15 (
    .a 3 1 <| .nil _ _) ?_
  refine aw_p 31 (
    .a 3 1 <| .nil _ _) ?_
  refine aw_p 63 (
    .a 3 1 <| .nil _ _) ?_
  refine aw_p 127 (
    .a 4 1 <| .nil _ _) ?_
  refine aw_p 255 (
    .a 7 1 <| .nil _ _) ?_
  refine aw_w [(0, .int .u64 1), (1, .int .u64 1), (4, .int .u64 0), (5, .int .u64 0), (6, .int .u64 1), (7, .int .u64 0), (8, .int .u64 1), (9, .int .u64 0), (11, .int .u64 0), (14, .int .u64 1), (15, .int .u64 1), (16, .int .u64 1), (17, .int .u64 0), (18, .int .u64 1), (19, .int .u64 1), (20, .int .u64 1), (21, .int .u64 0), (22, .int .u64 1), (23, .int .u64 1), (24, .int .u64 1)] [] ?_
  refine aw_p 511 (
    .a 3 1 <| .nil _ _) ?_
  refine aw_p 1023 (
    .a 3 1 <| .nil _ _) ?_
  refine aw_p 2047 (
    .a 6 1 <| .nil _ _) ?_
  refine aw_p 4095 (
    .a 9 1 <| .nil _ _) ?_
  refine aw_p 8191 (
    .a 4 1 <| .nil _ _) ?_
  refine aw_w [(0, .int .u64 1), (1, .int .u64 1), (4, .int .u64 0), (5, .int .u64 1), (6, .int .u64 1), (7, .int .u64 0), (8, .int .u64 1), (9, .int .u64 0), (11, .int .u64 0), (12, .int .u64 0), (13, .int .u64 0), (14, .int .u64 1), (15, .int .u64 1), (16, .int .u64 1), (17, .int .u64 0), (18, .int .u64 1), (19, .int .u64 1), (20, .int .u64 1), (21, .int .u64 0), (22, .int .u64 1), (23, .int .u64 1), (24, .int .u64 1), (31, .int .u64 0), (32, .int .u64 0), (33, .int .u64 0), (34, .int .u64 0), (35, .int .u64 0), (36, .int .u64 1), (37, .int .u64 0), (38, .int .u64 0), (39, .int .u64 0), (40, .int .u64 0), (41, .int .u64 0), (42, .int .u64 0), (43, .int .u64 0), (44, .int .u64 0), (45, .int .u64 0), (46, .int .u64 0), (47, .int .u64 0)] [] ?_
  refine aw_rt ?_
  exact en_ret [.int .u64 0, .int .u64 1] (by kernel_rfl)

theorem au_terrkeep1_44  :
    AC Try.prog 76 0 ([.int .i64 1, .int .i64 1]) [] (.agg #[.int .i64 0, .int .u64 1]) [] := by
  refine ac_in Try.func76 (fun w0 W pin => ?_)
  refine aw_p 3 (
    .a 1 1 <| .nil _ _) ?_
  refine aw_p 7 (
    .a 4 2 <| .p (does_c (au_terrkeep1_43)) <| .a 5 2 <| .nil _ _) ?_
  refine aw_sq 14 15 ?_
  refine aw_p 29 (
    .a 2 2 <| .nil _ _) ?_
  refine aw_fl 59 ?_
  refine aw_sk ?_
  refine then_normal ?_
  refine aw_sq 30 31 ?_
  refine aw_p 61 (
    .a 2 2 <| .nil _ _) ?_
  refine aw_fl 123 ?_
  refine aw_sk ?_
  refine then_normal ?_
  refine aw_p 63 (
    .a 5 2 <| .nil _ _) ?_
  refine aw_rt ?_
  exact en_ret [.agg #[.int .i64 0, .int .u64 1]] (by kernel_rfl)

theorem au_terrkeep1_45  :
    AC Try.prog 161 0 ([.int .u64 0, .int .u64 1, .int .u64 2]) [] (.tuple #[.int .u64 0, .int .u64 1]) [] := by
  refine ac_in Try.func161 (fun w0 W pin => ?_)
  refine aw_p 3 (
    .a 2 1 <| .nil _ _) ?_
  refine aw_sq 6 7 ?_
  refine aw_p 13 (
    .a 2 1 <| .nil _ _) ?_
  refine aw_fl 27 ?_
  refine aw_sk ?_
  refine then_normal ?_
  refine aw_sq 14 15 ?_
  refine aw_p 29 (
    .a 3 1 <| .nil _ _) ?_
  refine aw_fl 59 ?_
  refine aw_sk ?_
  refine then_normal ?_
  refine aw_sq 30 31 ?_
  refine aw_p 61 (
    .a 2 1 <| .nil _ _) ?_
  refine aw_tr 122 ?_
  refine aw_d 245 (
    .a 8 1 <| .nil _ _) ?_
  refine aw_rt ?_
  refine then_ret ?_
  exact en_ret [.int .u64 0, .int .u64 1] (by kernel_rfl)

theorem au_terrkeep1_46  :
    AC Try.prog 138 0 ([.agg #[.int .i64 0, .int .u64 1], .int .i64 2]) [] (.tuple #[.agg #[.int .i64 0, .int .u64 0], .int .i64 1, .int .i64 0]) [] := by
  refine ac_in Try.func138 (fun w0 W pin => ?_)
  refine aw_p 3 (
    .a 4 1 <| .nil _ _) ?_
  refine aw_sq 6 7 ?_
  refine aw_p 13 (
    .a 2 3 <| .nil _ _) ?_
  refine aw_fl 27 ?_
  refine aw_sk ?_
  refine then_normal ?_
  refine aw_p 15 (
    .a 4 3 <| .nil _ _) ?_
  refine aw_sq 30 31 ?_
  refine aw_p 61 (
    .a 1 3 <| .nil _ _) ?_
  refine aw_fl 123 ?_
  refine aw_sk ?_
  refine then_normal ?_
  refine aw_d 63 (
    .a 14 3 <| .nil _ _) ?_
  refine aw_w [(0, .agg #[.int .i64 0, .int .u64 1]), (1, .int .i64 2), (2, .pointer (some ⟨1, 0, none⟩)), (4, .pointer (some ⟨2, 0, none⟩)), (5, .int .i64 0), (6, .int .i64 0), (7, .bool false), (8, .int .u64 0), (9, .int .u64 0), (11, .int .i64 2), (12, .bool false), (14, .pointer (some ⟨1, 0, none⟩)), (15, .int .i64 0), (16, .bool false), (17, .bool false)] [(1, ⟨[.int .i64 0, .int .u64 1], 95, true, 2⟩), (2, ⟨[.int .i64 0, .int .u64 0], 95, true, 2⟩)] ?_
  refine aw_p 127 (
    .a 5 3 <| .p (does_c (au_terrkeep1_45)) <| .a 5 3 <| .nil _ _) ?_
  refine aw_sq 254 255 ?_
  refine aw_p 509 (
    .a 1 3 <| .nil _ _) ?_
  refine aw_fl 1019 ?_
  refine aw_sk ?_
  refine then_normal ?_
  refine aw_p 511 (
    .a 9 3 <| .nil _ _) ?_
  refine aw_rt ?_
  exact en_ret [.agg #[.int .i64 0, .int .u64 0], .int .i64 1, .int .i64 0] (by kernel_rfl)

theorem au_terrkeep1_47  :
    AC Try.prog 77 0 ([.int .i64 0]) [] (.agg #[.int .i64 0, .int .u64 0]) [] := by
  refine ac_in Try.func77 (fun w0 W pin => ?_)
  refine aw_p 3 (
    .a 1 1 <| .nil _ _) ?_
  refine aw_p 7 (
    .a 6 2 <| .nil _ _) ?_
  refine aw_rt ?_
  exact en_ret [.agg #[.int .i64 0, .int .u64 0]] (by kernel_rfl)

theorem au_terrkeep1_48  :
    AC Try.prog 139 0 ([.agg #[.int .i64 0, .int .u64 0]]) [] (.tuple #[.int .i64 0, .int .i64 0]) [] := by
  refine ac_in Try.func139 (fun w0 W pin => ?_)
  refine aw_p 3 (
    .a 3 1 <| .nil _ _) ?_
  refine aw_sq 6 7 ?_
  refine aw_d 13 (
    .a 4 2 <| .p (does_c (au_terrkeep1_47)) <| .p (does_e false ((show (!((0 == 0) && ((0 == 0) && true))) = false from by decide))) <| .nil _ _) ?_
  refine aw_fl 27 ?_
  refine aw_sk ?_
  refine then_normal ?_
  refine aw_p 15 (
    .a 5 2 <| .nil _ _) ?_
  refine aw_rt ?_
  exact en_ret [.int .i64 0, .int .i64 0] (by kernel_rfl)

theorem au_terrkeep1_49  :
    AC Try.prog 162 0 ([.int .i64 1]) [] (.int .u64 1) [] := by
  refine ac_in Try.func162 (fun w0 W pin => ?_)
  refine aw_p 3 (
    .a 1 1 <| .nil _ _) ?_
  refine aw_sq 6 7 ?_
  refine aw_p 13 (
    .a 2 1 <| .nil _ _) ?_
  refine aw_fl 27 ?_
  refine aw_sk ?_
  refine then_normal ?_
  refine aw_p 15 (
    .a 3 1 <| .nil _ _) ?_
  refine aw_rt ?_
  exact en_ret [.int .u64 1] (by kernel_rfl)

theorem au_terrkeep1_50  :
    AC Try.prog 162 0 ([.int .i64 2]) [] (.int .u64 2) [] := by
  refine ac_in Try.func162 (fun w0 W pin => ?_)
  refine aw_p 3 (
    .a 1 1 <| .nil _ _) ?_
  refine aw_sq 6 7 ?_
  refine aw_p 13 (
    .a 2 1 <| .nil _ _) ?_
  refine aw_fl 27 ?_
  refine aw_sk ?_
  refine then_normal ?_
  refine aw_p 15 (
    .a 3 1 <| .nil _ _) ?_
  refine aw_rt ?_
  exact en_ret [.int .u64 2] (by kernel_rfl)

theorem au_terrkeep1_51  :
    AC Try.prog 163 0 ([.int .u64 1, .int .u64 2]) [] (.int .u64 1) [] := by
  refine ac_in Try.func163 (fun w0 W pin => ?_)
  refine aw_p 3 (
    .a 1 1 <| .nil _ _) ?_
  refine aw_sq 6 7 ?_
  refine aw_bl 0 13 ?_
  refine aw_lp 27 ?_
  refine al_round ?_
  refine aw_sq 54 55 ?_
  refine aw_p 109 (
    .a 2 1 <| .nil _ _) ?_
  refine aw_tr 218 ?_
  refine aw_sk ?_
  refine then_normal ?_
  refine aw_bl 1 111 ?_
  refine aw_d1 (
    .a 6 1 <| .nil _ _) ?_
  refine block_normal ?_
  refine then_normal ?_
  refine al_round ?_
  refine aw_sq 54 55 ?_
  refine aw_p 109 (
    .a 2 1 <| .nil _ _) ?_
  refine aw_tr 218 ?_
  refine aw_sk ?_
  refine then_normal ?_
  refine aw_bl 1 111 ?_
  refine aw_d1 (
    .a 6 1 <| .nil _ _) ?_
  refine block_normal ?_
  refine then_normal ?_
  refine al_round ?_
  refine aw_sq 54 55 ?_
  refine aw_p 109 (
    .a 2 1 <| .nil _ _) ?_
  refine aw_fl 219 ?_
  refine aw_ex 0 ?_
  refine then_exit ?_
  refine then_exit ?_
  refine block_exit ?_
  refine then_normal ?_
  refine aw_p 15 (
    .a 2 1 <| .nil _ _) ?_
  refine aw_rt ?_
  exact en_ret [.int .u64 1] (by kernel_rfl)

theorem au_terrkeep1_52  :
    AC Try.prog 164 0 ([.bool false, .int .u64 1, .int .u64 2]) [] (.tuple #[.agg #[.int .i64 1, .int .i64 2], .int .i64 0]) [] := by
  refine ac_in Try.func164 (fun w0 W pin => ?_)
  refine aw_p 3 (
    .a 2 1 <| .nil _ _) ?_
  refine aw_sq 6 7 ?_
  refine aw_p 13 (
    .a 6 2 <| .nil _ _) ?_
  refine aw_fl 27 ?_
  refine aw_sk ?_
  refine then_normal ?_
  refine aw_sq 14 15 ?_
  refine aw_p 29 (
    .a 1 2 <| .nil _ _) ?_
  refine aw_fl 59 ?_
  refine aw_sk ?_
  refine then_normal ?_
  refine aw_p 31 (
    .a 7 2 <| .nil _ _) ?_
  refine aw_rt ?_
  exact en_ret [.agg #[.int .i64 1, .int .i64 2], .int .i64 0] (by kernel_rfl)

theorem au_terrkeep1_53  :
    AC Try.prog 140 0 ([.int .i64 1, .int .i64 2]) [] (.tuple #[.agg #[.int .i64 1, .int .i64 2], .int .i64 0]) [] := by
  refine ac_in Try.func140 (fun w0 W pin => ?_)
  refine aw_p 3 (
    .a 2 1 <| .nil _ _) ?_
  refine aw_sq 6 7 ?_
  refine aw_p 13 (
    .a 2 2 <| .nil _ _) ?_
  refine aw_fl 27 ?_
  refine aw_sk ?_
  refine then_normal ?_
  refine aw_p 15 (
    .a 1 2 <| .p (does_c (au_terrkeep1_49)) <| .a 1 2 <| .p (does_c (au_terrkeep1_50)) <| .a 2 2 <| .nil _ _) ?_
  refine aw_p 31 (
    .a 2 2 <| .p (does_c (au_terrkeep1_51)) <| .a 1 2 <| .nil _ _) ?_
  refine aw_d 63 (
    .a 15 2 <| .p (does_c (au_terrkeep1_52)) <| .a 4 2 <| .nil _ _) ?_
  refine aw_w [(0, .int .i64 1), (1, .int .i64 2), (4, .pointer (some ⟨1, 0, none⟩)), (5, .int .i64 0), (6, .int .u64 1), (7, .int .u64 2), (9, .int .i64 2), (10, .bool false), (12, .int .i64 1), (13, .int .u64 1), (14, .int .i64 2), (15, .int .u64 2), (16, .int .u64 1), (17, .int .u64 2), (18, .int .u64 1)] [(1, ⟨[.int .i64 1, .int .i64 2], 88, true, 2⟩)] ?_
  refine aw_rt ?_
  exact en_ret [.agg #[.int .i64 1, .int .i64 2], .int .i64 0] (by kernel_rfl)

theorem au_terrkeep1_54  :
    AC Try.prog 137 0 ([.int .i64 0]) [] (.agg #[.int .i64 0, .int .i64 1]) [] := by
  refine ac_in Try.func137 (fun w0 W pin => ?_)
  refine aw_p 3 (
    .a 1 1 <| .nil _ _) ?_
  refine aw_p 7 (
    .a 4 2 <| .nil _ _) ?_
  refine aw_rt ?_
  exact en_ret [.agg #[.int .i64 0, .int .i64 1]] (by kernel_rfl)

theorem au_terrkeep1_55  :
    AC Try.prog 162 0 ([.int .i64 0]) [] (.int .u64 0) [] := by
  refine ac_in Try.func162 (fun w0 W pin => ?_)
  refine aw_p 3 (
    .a 1 1 <| .nil _ _) ?_
  refine aw_sq 6 7 ?_
  refine aw_p 13 (
    .a 2 1 <| .nil _ _) ?_
  refine aw_fl 27 ?_
  refine aw_sk ?_
  refine then_normal ?_
  refine aw_p 15 (
    .a 3 1 <| .nil _ _) ?_
  refine aw_rt ?_
  exact en_ret [.int .u64 0] (by kernel_rfl)

theorem au_terrkeep1_56  :
    AC Try.prog 163 0 ([.int .u64 0, .int .u64 1]) [] (.int .u64 1) [] := by
  refine ac_in Try.func163 (fun w0 W pin => ?_)
  refine aw_p 3 (
    .a 1 1 <| .nil _ _) ?_
  refine aw_sq 6 7 ?_
  refine aw_bl 0 13 ?_
  refine aw_lp 27 ?_
  refine al_round ?_
  refine aw_sq 54 55 ?_
  refine aw_p 109 (
    .a 2 1 <| .nil _ _) ?_
  refine aw_tr 218 ?_
  refine aw_sk ?_
  refine then_normal ?_
  refine aw_bl 1 111 ?_
  refine aw_d1 (
    .a 6 1 <| .nil _ _) ?_
  refine block_normal ?_
  refine then_normal ?_
  refine al_round ?_
  refine aw_sq 54 55 ?_
  refine aw_p 109 (
    .a 2 1 <| .nil _ _) ?_
  refine aw_fl 219 ?_
  refine aw_ex 0 ?_
  refine then_exit ?_
  refine then_exit ?_
  refine block_exit ?_
  refine then_normal ?_
  refine aw_p 15 (
    .a 2 1 <| .nil _ _) ?_
  refine aw_rt ?_
  exact en_ret [.int .u64 1] (by kernel_rfl)

theorem au_terrkeep1_57  :
    AC Try.prog 176 0 ([.agg #[.int .i64 0, .int .i64 1]]) [] (.bool true) [] := by
  refine ac_in Try.func176 (fun w0 W pin => ?_)
  refine aw_p 3 (
    .a 2 1 <| .nil _ _) ?_
  refine aw_d 7 (
    .a 11 2 <| .p (does_c (au_terrkeep1_55)) <| .a 2 2 <| .p (does_c (au_terrkeep1_49)) <| .p (does_c (au_terrkeep1_56)) <| .a 3 2 <| .nil _ _) ?_
  refine aw_rt ?_
  exact en_ret [.bool true] (by kernel_rfl)

theorem au_terrkeep1_58  :
    AC Try.prog 165 0 ([.agg #[.int .i64 0, .int .i64 1]]) [] (.agg #[.int .i64 0, .int .i64 1]) [] := by
  refine ac_in Try.func165 (fun w0 W pin => ?_)
  refine aw_p 3 (
    .a 2 1 <| .nil _ _) ?_
  refine aw_sq 6 7 ?_
  refine aw_p 13 (
    .a 1 3 <| .p (does_c (au_terrkeep1_57)) <| .a 1 3 <| .nil _ _) ?_
  refine aw_fl 27 ?_
  refine aw_sk ?_
  refine then_normal ?_
  refine aw_p 15 (
    .a 2 3 <| .nil _ _) ?_
  refine aw_rt ?_
  exact en_ret [.agg #[.int .i64 0, .int .i64 1]] (by kernel_rfl)

theorem au_terrkeep1_59  :
    AC Try.prog 176 0 ([.agg #[.int .i64 1, .int .i64 2]]) [] (.bool true) [] := by
  refine ac_in Try.func176 (fun w0 W pin => ?_)
  refine aw_p 3 (
    .a 2 1 <| .nil _ _) ?_
  refine aw_d 7 (
    .a 11 2 <| .p (does_c (au_terrkeep1_49)) <| .a 2 2 <| .p (does_c (au_terrkeep1_50)) <| .p (does_c (au_terrkeep1_51)) <| .a 3 2 <| .nil _ _) ?_
  refine aw_rt ?_
  exact en_ret [.bool true] (by kernel_rfl)

theorem au_terrkeep1_60  :
    AC Try.prog 165 0 ([.agg #[.int .i64 1, .int .i64 2]]) [] (.agg #[.int .i64 1, .int .i64 2]) [] := by
  refine ac_in Try.func165 (fun w0 W pin => ?_)
  refine aw_p 3 (
    .a 2 1 <| .nil _ _) ?_
  refine aw_sq 6 7 ?_
  refine aw_p 13 (
    .a 1 3 <| .p (does_c (au_terrkeep1_59)) <| .a 1 3 <| .nil _ _) ?_
  refine aw_fl 27 ?_
  refine aw_sk ?_
  refine then_normal ?_
  refine aw_p 15 (
    .a 2 3 <| .nil _ _) ?_
  refine aw_rt ?_
  exact en_ret [.agg #[.int .i64 1, .int .i64 2]] (by kernel_rfl)

theorem au_terrkeep1_61  :
    AC Try.prog 113 0 ([.int .u64 0, .int .u64 2]) [] (.tuple #[.int .u64 0, .int .u64 0]) [] := by
  refine ac_in Try.func113 (fun w0 W pin => ?_)
  refine aw_p 3 (
    .a 2 1 <| .nil _ _) ?_
  refine aw_p 7 (
    .a 3 1 <| .nil _ _) ?_
  refine aw_p 15 (
    .a 3 1 <| .nil _ _) ?_
  refine aw_p 31 (
    .a 3 1 <| .nil _ _) ?_
  refine aw_p 63 (
    .a 3 1 <| .nil _ _) ?_
  refine aw_p 127 (
    .a 4 1 <| .nil _ _) ?_
  refine aw_p 255 (
    .a 7 1 <| .nil _ _) ?_
  refine aw_w [(0, .int .u64 0), (1, .int .u64 2), (4, .int .u64 0), (5, .int .u64 0), (6, .int .u64 0), (7, .int .u64 0), (8, .int .u64 2), (9, .int .u64 0), (11, .int .u64 0), (14, .int .u64 0), (15, .int .u64 0), (16, .int .u64 0), (17, .int .u64 0), (18, .int .u64 2), (19, .int .u64 2), (20, .int .u64 2), (21, .int .u64 0), (22, .int .u64 0), (23, .int .u64 2), (24, .int .u64 0)] [] ?_
  refine aw_p 511 (
    .a 3 1 <| .nil _ _) ?_
  refine aw_p 1023 (
    .a 3 1 <| .nil _ _) ?_
  refine aw_p 2047 (
    .a 6 1 <| .nil _ _) ?_
  refine aw_p 4095 (
    .a 9 1 <| .nil _ _) ?_
  refine aw_p 8191 (
    .a 4 1 <| .nil _ _) ?_
  refine aw_w [(0, .int .u64 0), (1, .int .u64 2), (4, .int .u64 0), (5, .int .u64 0), (6, .int .u64 0), (7, .int .u64 0), (8, .int .u64 2), (9, .int .u64 0), (11, .int .u64 0), (12, .int .u64 0), (13, .int .u64 0), (14, .int .u64 0), (15, .int .u64 0), (16, .int .u64 0), (17, .int .u64 0), (18, .int .u64 2), (19, .int .u64 2), (20, .int .u64 2), (21, .int .u64 0), (22, .int .u64 0), (23, .int .u64 2), (24, .int .u64 0), (31, .int .u64 0), (32, .int .u64 0), (33, .int .u64 0), (34, .int .u64 0), (35, .int .u64 0), (36, .int .u64 0), (37, .int .u64 0), (38, .int .u64 0), (39, .int .u64 0), (40, .int .u64 0), (41, .int .u64 0), (42, .int .u64 0), (43, .int .u64 0), (44, .int .u64 0), (45, .int .u64 0), (46, .int .u64 0), (47, .int .u64 0)] [] ?_
  refine aw_rt ?_
  exact en_ret [.int .u64 0, .int .u64 0] (by kernel_rfl)

theorem au_terrkeep1_62  :
    AC Try.prog 76 0 ([.int .i64 0, .int .i64 2]) [] (.agg #[.int .i64 0, .int .u64 0]) [] := by
  refine ac_in Try.func76 (fun w0 W pin => ?_)
  refine aw_p 3 (
    .a 1 1 <| .nil _ _) ?_
  refine aw_p 7 (
    .a 4 2 <| .p (does_c (au_terrkeep1_61)) <| .a 5 2 <| .nil _ _) ?_
  refine aw_sq 14 15 ?_
  refine aw_p 29 (
    .a 2 2 <| .nil _ _) ?_
  refine aw_fl 59 ?_
  refine aw_sk ?_
  refine then_normal ?_
  refine aw_sq 30 31 ?_
  refine aw_p 61 (
    .a 2 2 <| .nil _ _) ?_
  refine aw_fl 123 ?_
  refine aw_sk ?_
  refine then_normal ?_
  refine aw_p 63 (
    .a 5 2 <| .nil _ _) ?_
  refine aw_rt ?_
  exact en_ret [.agg #[.int .i64 0, .int .u64 0]] (by kernel_rfl)

theorem au_terrkeep1_63  :
    AC Try.prog 166 0 ([.agg #[.int .i64 0, .int .u64 0], .agg #[.int .i64 0, .int .u64 1]]) [] (.agg #[.int .i64 0, .int .u64 1]) [] := by
  refine ac_in Try.func166 (fun w0 W pin => ?_)
  refine aw_p 3 (
    .a 3 1 <| .nil _ _) ?_
  refine aw_p 7 (
    .a 4 4 <| .p (does_val (v' := .tuple #[.int .u64 1, .int .u64 0]) (does_x (run_add64 Try.func177 (by kernel_rfl) (by kernel_rfl) (by kernel_rfl) (by kernel_rfl) 0 1 0 (by omega) (by omega) (by omega) (by omega))) (by kernel_rfl)) <| .a 5 4 <| .nil _ _) ?_
  refine aw_p 15 (
    .a 7 4 <| .p (does_val (v' := .tuple #[.int .u64 0, .int .u64 0]) (does_x (run_add64 Try.func177 (by kernel_rfl) (by kernel_rfl) (by kernel_rfl) (by kernel_rfl) 0 0 0 (by omega) (by omega) (by omega) (by omega))) (by kernel_rfl)) <| .a 5 4 <| .nil _ _) ?_
  refine aw_w [(0, .agg #[.int .i64 0, .int .u64 0]), (1, .agg #[.int .i64 0, .int .u64 1]), (2, .pointer (some ⟨1, 0, none⟩)), (3, .pointer (some ⟨2, 0, none⟩)), (4, .pointer (some ⟨3, 0, none⟩)), (5, .int .u64 1), (7, .int .u64 0), (9, .tuple #[.int .u64 1, .int .u64 0]), (10, .pointer (some ⟨1, 1, none⟩)), (11, .int .u64 0), (12, .pointer (some ⟨2, 1, none⟩)), (13, .int .u64 1), (14, .tuple #[.int .u64 1, .int .u64 0]), (15, .int .u64 1), (16, .int .u64 0)] [(1, ⟨[.int .i64 0, .int .u64 0], 95, true, 2⟩), (2, ⟨[.int .i64 0, .int .u64 1], 95, true, 2⟩), (3, ⟨[.int .i64 0, .int .u64 0], 95, true, 2⟩)] ?_
  refine aw_p 31 (
    .a 5 4 <| .nil _ _) ?_
  refine aw_rt ?_
  exact en_ret [.agg #[.int .i64 0, .int .u64 1]] (by kernel_rfl)

theorem au_terrkeep1_64  :
    AC Try.prog 161 0 ([.int .u64 0, .int .u64 1, .int .u64 1]) [] (.tuple #[.int .u64 1, .int .u64 0]) [] := by
  refine ac_in Try.func161 (fun w0 W pin => ?_)
  refine aw_p 3 (
    .a 2 1 <| .nil _ _) ?_
  refine aw_sq 6 7 ?_
  refine aw_p 13 (
    .a 2 1 <| .nil _ _) ?_
  refine aw_fl 27 ?_
  refine aw_sk ?_
  refine then_normal ?_
  refine aw_sq 14 15 ?_
  refine aw_p 29 (
    .a 3 1 <| .nil _ _) ?_
  refine aw_fl 59 ?_
  refine aw_sk ?_
  refine then_normal ?_
  refine aw_sq 30 31 ?_
  refine aw_p 61 (
    .a 2 1 <| .nil _ _) ?_
  refine aw_tr 122 ?_
  refine aw_d 245 (
    .a 8 1 <| .nil _ _) ?_
  refine aw_rt ?_
  refine then_ret ?_
  exact en_ret [.int .u64 1, .int .u64 0] (by kernel_rfl)

theorem au_terrkeep1_65  :
    AC Try.prog 138 0 ([.agg #[.int .i64 0, .int .u64 1], .int .i64 1]) [] (.tuple #[.agg #[.int .i64 0, .int .u64 1], .int .i64 0, .int .i64 0]) [] := by
  refine ac_in Try.func138 (fun w0 W pin => ?_)
  refine aw_p 3 (
    .a 4 1 <| .nil _ _) ?_
  refine aw_sq 6 7 ?_
  refine aw_p 13 (
    .a 2 3 <| .nil _ _) ?_
  refine aw_fl 27 ?_
  refine aw_sk ?_
  refine then_normal ?_
  refine aw_p 15 (
    .a 4 3 <| .nil _ _) ?_
  refine aw_sq 30 31 ?_
  refine aw_p 61 (
    .a 1 3 <| .nil _ _) ?_
  refine aw_fl 123 ?_
  refine aw_sk ?_
  refine then_normal ?_
  refine aw_d 63 (
    .a 14 3 <| .nil _ _) ?_
  refine aw_w [(0, .agg #[.int .i64 0, .int .u64 1]), (1, .int .i64 1), (2, .pointer (some ⟨1, 0, none⟩)), (4, .pointer (some ⟨2, 0, none⟩)), (5, .int .i64 0), (6, .int .i64 0), (7, .bool false), (8, .int .u64 0), (9, .int .u64 0), (11, .int .i64 1), (12, .bool false), (14, .pointer (some ⟨1, 0, none⟩)), (15, .int .i64 0), (16, .bool false), (17, .bool false)] [(1, ⟨[.int .i64 0, .int .u64 1], 95, true, 2⟩), (2, ⟨[.int .i64 0, .int .u64 0], 95, true, 2⟩)] ?_
  refine aw_p 127 (
    .a 5 3 <| .p (does_c (au_terrkeep1_64)) <| .a 5 3 <| .nil _ _) ?_
  refine aw_sq 254 255 ?_
  refine aw_p 509 (
    .a 1 3 <| .nil _ _) ?_
  refine aw_fl 1019 ?_
  refine aw_sk ?_
  refine then_normal ?_
  refine aw_p 511 (
    .a 9 3 <| .nil _ _) ?_
  refine aw_rt ?_
  exact en_ret [.agg #[.int .i64 0, .int .u64 1], .int .i64 0, .int .i64 0] (by kernel_rfl)

theorem au_terrkeep1_66  :
    AC Try.prog 167 0 ([.agg #[.int .i64 0, .int .u64 1], .int .i64 1]) [] (.tuple #[.agg #[.int .i64 0, .int .u64 1], .int .i64 0, .int .i64 0]) [] := by
  refine ac_in Try.func167 (fun w0 W pin => ?_)
  refine aw_p 3 (
    .a 4 1 <| .nil _ _) ?_
  refine aw_p 7 (
    .a 2 3 <| .p (does_c (au_terrkeep1_65)) <| .a 6 3 <| .nil _ _) ?_
  refine aw_rt ?_
  exact en_ret [.agg #[.int .i64 0, .int .u64 1], .int .i64 0, .int .i64 0] (by kernel_rfl)

theorem au_terrkeep1_67  :
    AC Try.prog 77 0 ([.int .i64 1]) [] (.agg #[.int .i64 0, .int .u64 1]) [] := by
  refine ac_in Try.func77 (fun w0 W pin => ?_)
  refine aw_p 3 (
    .a 1 1 <| .nil _ _) ?_
  refine aw_p 7 (
    .a 6 2 <| .nil _ _) ?_
  refine aw_rt ?_
  exact en_ret [.agg #[.int .i64 0, .int .u64 1]] (by kernel_rfl)

theorem au_terrkeep1_68  :
    AC Try.prog 139 0 ([.agg #[.int .i64 0, .int .u64 1]]) [] (.tuple #[.int .i64 1, .int .i64 0]) [] := by
  refine ac_in Try.func139 (fun w0 W pin => ?_)
  refine aw_p 3 (
    .a 3 1 <| .nil _ _) ?_
  refine aw_sq 6 7 ?_
  refine aw_d 13 (
    .a 4 2 <| .p (does_c (au_terrkeep1_67)) <| .p (does_e false ((show (!((0 == 0) && ((1 == 1) && true))) = false from by decide))) <| .nil _ _) ?_
  refine aw_fl 27 ?_
  refine aw_sk ?_
  refine then_normal ?_
  refine aw_p 15 (
    .a 5 2 <| .nil _ _) ?_
  refine aw_rt ?_
  exact en_ret [.int .i64 1, .int .i64 0] (by kernel_rfl)

theorem au_terrkeep1_69  :
    AC Try.prog 113 0 ([.int .u64 1, .int .u64 2]) [] (.tuple #[.int .u64 0, .int .u64 2]) [] := by
  refine ac_in Try.func113 (fun w0 W pin => ?_)
  refine aw_p 3 (
    .a 2 1 <| .nil _ _) ?_
  refine aw_p 7 (
    .a 3 1 <| .nil _ _) ?_
  refine aw_p 15 (
    .a 3 1 <| .nil _ _) ?_
  refine aw_p 31 (
    .a 3 1 <| .nil _ _) ?_
  refine aw_p 63 (
    .a 3 1 <| .nil _ _) ?_
  refine aw_p 127 (
    .a 4 1 <| .nil _ _) ?_
  refine aw_p 255 (
    .a 7 1 <| .nil _ _) ?_
  refine aw_w [(0, .int .u64 1), (1, .int .u64 2), (4, .int .u64 0), (5, .int .u64 0), (6, .int .u64 1), (7, .int .u64 0), (8, .int .u64 2), (9, .int .u64 0), (11, .int .u64 0), (14, .int .u64 1), (15, .int .u64 1), (16, .int .u64 1), (17, .int .u64 0), (18, .int .u64 2), (19, .int .u64 2), (20, .int .u64 2), (21, .int .u64 0), (22, .int .u64 1), (23, .int .u64 2), (24, .int .u64 2)] [] ?_
  refine aw_p 511 (
    .a 3 1 <| .nil _ _) ?_
  refine aw_p 1023 (
    .a 3 1 <| .nil _ _) ?_
  refine aw_p 2047 (
    .a 6 1 <| .nil _ _) ?_
  refine aw_p 4095 (
    .a 9 1 <| .nil _ _) ?_
  refine aw_p 8191 (
    .a 4 1 <| .nil _ _) ?_
  refine aw_w [(0, .int .u64 1), (1, .int .u64 2), (4, .int .u64 0), (5, .int .u64 2), (6, .int .u64 1), (7, .int .u64 0), (8, .int .u64 2), (9, .int .u64 0), (11, .int .u64 0), (12, .int .u64 0), (13, .int .u64 0), (14, .int .u64 1), (15, .int .u64 1), (16, .int .u64 1), (17, .int .u64 0), (18, .int .u64 2), (19, .int .u64 2), (20, .int .u64 2), (21, .int .u64 0), (22, .int .u64 1), (23, .int .u64 2), (24, .int .u64 2), (31, .int .u64 0), (32, .int .u64 0), (33, .int .u64 0), (34, .int .u64 0), (35, .int .u64 0), (36, .int .u64 1), (37, .int .u64 0), (38, .int .u64 0), (39, .int .u64 0), (40, .int .u64 0), (41, .int .u64 0), (42, .int .u64 0), (43, .int .u64 0), (44, .int .u64 0), (45, .int .u64 0), (46, .int .u64 0), (47, .int .u64 0)] [] ?_
  refine aw_rt ?_
  exact en_ret [.int .u64 0, .int .u64 2] (by kernel_rfl)

theorem au_terrkeep1_70  :
    AC Try.prog 76 0 ([.int .i64 1, .int .i64 2]) [] (.agg #[.int .i64 0, .int .u64 2]) [] := by
  refine ac_in Try.func76 (fun w0 W pin => ?_)
  refine aw_p 3 (
    .a 1 1 <| .nil _ _) ?_
  refine aw_p 7 (
    .a 4 2 <| .p (does_c (au_terrkeep1_69)) <| .a 5 2 <| .nil _ _) ?_
  refine aw_sq 14 15 ?_
  refine aw_p 29 (
    .a 2 2 <| .nil _ _) ?_
  refine aw_fl 59 ?_
  refine aw_sk ?_
  refine then_normal ?_
  refine aw_sq 30 31 ?_
  refine aw_p 61 (
    .a 2 2 <| .nil _ _) ?_
  refine aw_fl 123 ?_
  refine aw_sk ?_
  refine then_normal ?_
  refine aw_p 63 (
    .a 5 2 <| .nil _ _) ?_
  refine aw_rt ?_
  exact en_ret [.agg #[.int .i64 0, .int .u64 2]] (by kernel_rfl)

theorem au_terrkeep1_71  :
    AC Try.prog 77 0 ([.int .i64 2]) [] (.agg #[.int .i64 0, .int .u64 2]) [] := by
  refine ac_in Try.func77 (fun w0 W pin => ?_)
  refine aw_p 3 (
    .a 1 1 <| .nil _ _) ?_
  refine aw_p 7 (
    .a 6 2 <| .nil _ _) ?_
  refine aw_rt ?_
  exact en_ret [.agg #[.int .i64 0, .int .u64 2]] (by kernel_rfl)

theorem au_terrkeep1_72  :
    AC Try.prog 139 0 ([.agg #[.int .i64 0, .int .u64 2]]) [] (.tuple #[.int .i64 2, .int .i64 0]) [] := by
  refine ac_in Try.func139 (fun w0 W pin => ?_)
  refine aw_p 3 (
    .a 3 1 <| .nil _ _) ?_
  refine aw_sq 6 7 ?_
  refine aw_d 13 (
    .a 4 2 <| .p (does_c (au_terrkeep1_71)) <| .p (does_e false ((show (!((0 == 0) && ((2 == 2) && true))) = false from by decide))) <| .nil _ _) ?_
  refine aw_fl 27 ?_
  refine aw_sk ?_
  refine then_normal ?_
  refine aw_p 15 (
    .a 5 2 <| .nil _ _) ?_
  refine aw_rt ?_
  exact en_ret [.int .i64 2, .int .i64 0] (by kernel_rfl)

theorem au_terrkeep1_73  :
    AC Try.prog 141 0 ([.agg #[.int .i64 0, .int .i64 1], .agg #[.int .i64 1, .int .i64 2]]) [] (.tuple #[.agg #[.int .i64 1, .int .i64 2], .int .i64 0]) [] := by
  refine ac_in Try.func141 (fun w0 W pin => ?_)
  refine aw_p 3 (
    .a 4 1 <| .nil _ _) ?_
  refine aw_d 7 (
    .a 1 4 <| .p (does_c (au_terrkeep1_58)) <| .a 1 4 <| .p (does_c (au_terrkeep1_60)) <| .a 2 4 <| .nil _ _) ?_
  refine aw_d 15 (
    .a 2 4 <| .p (does_c (au_terrkeep1_49)) <| .a 2 4 <| .p (does_c (au_terrkeep1_50)) <| .p (does_c (au_terrkeep1_51)) <| .a 2 4 <| .nil _ _) ?_
  refine aw_d 31 (
    .a 6 4 <| .p (does_c (au_terrkeep1_62)) <| .a 6 4 <| .p (does_c (au_terrkeep1_44)) <| .p (does_c (au_terrkeep1_63)) <| .a 2 4 <| .nil _ _) ?_
  refine aw_w [(0, .agg #[.int .i64 0, .int .i64 1]), (1, .agg #[.int .i64 1, .int .i64 2]), (2, .pointer (some ⟨1, 0, none⟩)), (3, .pointer (some ⟨2, 0, none⟩)), (4, .pointer (some ⟨3, 0, none⟩)), (5, .int .i64 0), (6, .int .i64 1), (7, .pointer (some ⟨4, 0, none⟩)), (18, .agg #[.int .i64 0, .int .i64 1]), (19, .agg #[.int .i64 0, .int .i64 1]), (20, .agg #[.int .i64 1, .int .i64 2]), (21, .agg #[.int .i64 1, .int .i64 2]), (22, .pointer (some ⟨1, 1, none⟩)), (23, .int .i64 1), (24, .int .u64 1), (25, .pointer (some ⟨2, 1, none⟩)), (26, .int .i64 2), (27, .int .u64 2), (28, .int .u64 1), (29, .int .i64 1)] [(1, ⟨[.int .i64 0, .int .i64 1], 88, true, 2⟩), (2, ⟨[.int .i64 1, .int .i64 2], 88, true, 2⟩), (3, ⟨[.int .i64 0, .int .i64 0], 88, true, 2⟩), (4, ⟨[.int .i64 0, .int .u64 1], 95, true, 2⟩)] ?_
  refine aw_p 63 (
    .a 2 5 <| .p (does_c (au_terrkeep1_65)) <| .a 8 5 <| .nil _ _) ?_
  refine aw_p 127 (
    .a 1 6 <| .p (does_c (au_terrkeep1_55)) <| .a 1 6 <| .p (does_c (au_terrkeep1_49)) <| .p (does_c (au_terrkeep1_56)) <| .a 2 6 <| .nil _ _) ?_
  refine aw_p 255 (
    .a 2 6 <| .p (does_c (au_terrkeep1_66)) <| .a 8 6 <| .nil _ _) ?_
  refine aw_w [(0, .agg #[.int .i64 0, .int .i64 1]), (1, .agg #[.int .i64 1, .int .i64 2]), (2, .pointer (some ⟨1, 0, none⟩)), (3, .pointer (some ⟨2, 0, none⟩)), (4, .pointer (some ⟨3, 0, none⟩)), (5, .int .i64 0), (6, .int .i64 1), (7, .pointer (some ⟨4, 0, none⟩)), (8, .pointer (some ⟨5, 0, none⟩)), (9, .int .i64 0), (11, .int .i64 1), (12, .pointer (some ⟨6, 0, none⟩)), (18, .agg #[.int .i64 0, .int .i64 1]), (19, .agg #[.int .i64 0, .int .i64 1]), (20, .agg #[.int .i64 1, .int .i64 2]), (21, .agg #[.int .i64 1, .int .i64 2]), (22, .pointer (some ⟨1, 1, none⟩)), (23, .int .i64 1), (24, .int .u64 1), (25, .pointer (some ⟨2, 1, none⟩)), (26, .int .i64 2), (27, .int .u64 2), (28, .int .u64 1), (29, .int .i64 1), (45, .tuple #[.agg #[.int .i64 0, .int .u64 1], .int .i64 0, .int .i64 0]), (46, .agg #[.int .i64 0, .int .u64 1]), (47, .int .i64 1), (48, .tuple #[.agg #[.int .i64 0, .int .u64 1], .int .i64 0, .int .i64 0]), (49, .agg #[.int .i64 0, .int .u64 1]), (50, .int .i64 0), (51, .int .i64 0), (52, .int .i64 0), (53, .int .u64 0), (54, .int .i64 1), (55, .int .u64 1), (56, .int .u64 1), (57, .int .i64 1)] [(1, ⟨[.int .i64 0, .int .i64 1], 88, true, 2⟩), (2, ⟨[.int .i64 1, .int .i64 2], 88, true, 2⟩), (3, ⟨[.int .i64 0, .int .i64 0], 88, true, 2⟩), (4, ⟨[.int .i64 0, .int .u64 1], 95, true, 2⟩), (5, ⟨[.int .i64 0, .int .u64 1], 95, true, 2⟩), (6, ⟨[.int .i64 0, .int .u64 1], 95, true, 2⟩)] ?_
  refine aw_p 511 (
    .a 1 7 <| .p (does_c (au_terrkeep1_68)) <| .a 5 7 <| .nil _ _) ?_
  refine aw_d 1023 (
    .a 8 7 <| .p (does_c (au_terrkeep1_70)) <| .p (does_c (au_terrkeep1_72)) <| .a 5 7 <| .nil _ _) ?_
  refine aw_sq 2046 2047 ?_
  refine aw_p 4093 (
    .a 14 7 <| .nil _ _) ?_
  refine aw_w [(0, .agg #[.int .i64 0, .int .i64 1]), (1, .agg #[.int .i64 1, .int .i64 2]), (2, .pointer (some ⟨1, 0, none⟩)), (3, .pointer (some ⟨2, 0, none⟩)), (4, .pointer (some ⟨3, 0, none⟩)), (5, .int .i64 0), (6, .int .i64 1), (7, .pointer (some ⟨4, 0, none⟩)), (8, .pointer (some ⟨5, 0, none⟩)), (9, .int .i64 0), (11, .int .i64 1), (12, .pointer (some ⟨6, 0, none⟩)), (14, .int .i64 1), (16, .int .i64 2), (18, .agg #[.int .i64 0, .int .i64 1]), (19, .agg #[.int .i64 0, .int .i64 1]), (20, .agg #[.int .i64 1, .int .i64 2]), (21, .agg #[.int .i64 1, .int .i64 2]), (22, .pointer (some ⟨1, 1, none⟩)), (23, .int .i64 1), (24, .int .u64 1), (25, .pointer (some ⟨2, 1, none⟩)), (26, .int .i64 2), (27, .int .u64 2), (28, .int .u64 1), (29, .int .i64 1), (45, .tuple #[.agg #[.int .i64 0, .int .u64 1], .int .i64 0, .int .i64 0]), (46, .agg #[.int .i64 0, .int .u64 1]), (47, .int .i64 1), (48, .tuple #[.agg #[.int .i64 0, .int .u64 1], .int .i64 0, .int .i64 0]), (49, .agg #[.int .i64 0, .int .u64 1]), (50, .int .i64 0), (51, .int .i64 0), (52, .int .i64 0), (53, .int .u64 0), (54, .int .i64 1), (55, .int .u64 1), (56, .int .u64 1), (57, .int .i64 1), (65, .tuple #[.int .i64 1, .int .i64 0]), (66, .agg #[.int .i64 0, .int .u64 1]), (67, .tuple #[.int .i64 1, .int .i64 0]), (68, .int .i64 1), (69, .int .i64 0), (70, .tuple #[.int .i64 2, .int .i64 0]), (71, .pointer (some ⟨1, 1, none⟩)), (72, .int .i64 1), (73, .int .i64 1), (74, .int .i64 1), (75, .pointer (some ⟨2, 1, none⟩)), (76, .int .i64 2), (77, .int .i64 1), (78, .int .i64 2), (79, .agg #[.int .i64 0, .int .u64 2]), (80, .tuple #[.int .i64 2, .int .i64 0]), (81, .int .i64 2), (82, .int .i64 0), (96, .bool false)] [(1, ⟨[.int .i64 0, .int .i64 1], 88, true, 2⟩), (2, ⟨[.int .i64 1, .int .i64 2], 88, true, 2⟩), (3, ⟨[.int .i64 0, .int .i64 0], 88, true, 2⟩), (4, ⟨[.int .i64 0, .int .u64 1], 95, true, 2⟩), (5, ⟨[.int .i64 0, .int .u64 1], 95, true, 2⟩), (6, ⟨[.int .i64 0, .int .u64 1], 95, true, 2⟩)] ?_
  refine aw_fl 8187 ?_
  refine aw_sk ?_
  refine then_normal ?_
  refine aw_p 4095 (
    .a 5 7 <| .nil _ _) ?_
  refine aw_rt ?_
  exact en_ret [.agg #[.int .i64 1, .int .i64 2], .int .i64 0] (by kernel_rfl)

theorem au_terrkeep1_74  :
    AC Try.prog 112 0 ([.int .i64 0, .int .i64 1, .int .i64 1, .int .i64 2]) [] (.agg #[.int .i64 1, .int .i64 2]) [] := by
  refine ac_in Try.func112 (fun w0 W pin => ?_)
  refine aw_p 3 (
    .a 1 1 <| .nil _ _) ?_
  refine aw_p 7 (
    .a 2 2 <| .p (does_c (au_terrkeep1_44)) <| .a 1 2 <| .p (does_c (au_terrkeep1_46)) <| .a 8 2 <| .nil _ _) ?_
  refine aw_p 15 (
    .a 1 3 <| .p (does_c (au_terrkeep1_48)) <| .a 5 3 <| .nil _ _) ?_
  refine aw_p 31 (
    .a 2 3 <| .p (does_c (au_terrkeep1_53)) <| .a 6 3 <| .nil _ _) ?_
  refine aw_w [(0, .int .i64 0), (1, .int .i64 1), (2, .int .i64 1), (3, .int .i64 2), (8, .pointer (some ⟨1, 0, none⟩)), (9, .pointer (some ⟨2, 0, none⟩)), (12, .int .i64 0), (14, .pointer (some ⟨3, 0, none⟩)), (18, .tuple #[.agg #[.int .i64 0, .int .u64 0], .int .i64 1, .int .i64 0]), (19, .int .i64 1), (20, .int .i64 1), (21, .agg #[.int .i64 0, .int .u64 1]), (22, .int .i64 2), (23, .tuple #[.agg #[.int .i64 0, .int .u64 0], .int .i64 1, .int .i64 0]), (24, .agg #[.int .i64 0, .int .u64 0]), (25, .int .i64 1), (26, .int .i64 0), (27, .tuple #[.int .i64 0, .int .i64 0]), (28, .agg #[.int .i64 0, .int .u64 0]), (29, .tuple #[.int .i64 0, .int .i64 0]), (30, .int .i64 0), (31, .int .i64 0)] [(1, ⟨[.int .i64 0, .int .i64 0], 88, true, 2⟩), (2, ⟨[.int .i64 0, .int .u64 0], 95, true, 2⟩), (3, ⟨[.int .i64 1, .int .i64 2], 88, true, 2⟩)] ?_
  refine aw_d 63 (
    .a 3 4 <| .p (does_c (au_terrkeep1_54)) <| .a 1 4 <| .p (does_c (au_terrkeep1_73)) <| .a 6 4 <| .nil _ _) ?_
  refine aw_p 127 (
    .a 2 5 <| .nil _ _) ?_
  refine aw_rt ?_
  exact en_ret [.agg #[.int .i64 1, .int .i64 2]] (by kernel_rfl)

theorem au_terrkeep1_75  :
    AC Try.prog 75 0 ([.agg #[.int .i64 0, .int .i64 0], .agg #[.int .i64 1, .int .i64 1], .agg #[.int .i64 0, .int .i64 1], .agg #[.int .i64 1, .int .i64 0]]) [] (.tuple #[.agg #[.int .i64 1, .int .i64 2, .int .i64 1, .int .i64 2], .int .i64 0]) [] := by
  refine ac_in Try.func75 (fun w0 W pin => ?_)
  refine aw_p 3 (
    .a 6 1 <| .nil _ _) ?_
  refine aw_d 7 (
    .a 1 6 <| .p (does_c (au_terrkeep1_9)) <| .a 1 6 <| .p (does_c (au_terrkeep1_11)) <| .a 1 6 <| .p (does_c (au_terrkeep1_12)) <| .a 1 6 <| .p (does_c (au_terrkeep1_13)) <| .a 4 6 <| .nil _ _) ?_
  refine aw_sq 14 15 ?_
  refine aw_p 29 (
    .a 4 6 <| .p (does_c (au_terrkeep1_33)) <| .nil _ _) ?_
  refine aw_bl 0 59 ?_
  refine aw_p 119 (
    .a 2 6 <| .nil _ _) ?_
  refine aw_w [(0, .agg #[.int .i64 0, .int .i64 0]), (1, .agg #[.int .i64 1, .int .i64 1]), (2, .agg #[.int .i64 0, .int .i64 1]), (3, .agg #[.int .i64 1, .int .i64 0]), (4, .pointer (some ⟨1, 0, none⟩)), (5, .pointer (some ⟨2, 0, none⟩)), (6, .pointer (some ⟨3, 0, none⟩)), (7, .pointer (some ⟨4, 0, none⟩)), (8, .pointer (some ⟨5, 0, none⟩)), (9, .int .i64 0), (13, .agg #[.int .i64 0, .int .i64 0]), (14, .agg #[.int .i64 0, .int .i64 0]), (15, .agg #[.int .i64 1, .int .i64 1]), (16, .agg #[.int .i64 1, .int .i64 1]), (17, .agg #[.int .i64 0, .int .i64 1]), (18, .agg #[.int .i64 0, .int .i64 1]), (19, .agg #[.int .i64 1, .int .i64 0]), (20, .agg #[.int .i64 1, .int .i64 0]), (21, .agg #[.int .i64 0, .int .i64 0]), (22, .agg #[.int .i64 1, .int .i64 1]), (23, .agg #[.int .i64 0, .int .i64 1]), (24, .agg #[.int .i64 1, .int .i64 0]), (25, .int .i64 1), (26, .bool false)] [(1, ⟨[.int .i64 0, .int .i64 0], 28, true, 2⟩), (2, ⟨[.int .i64 1, .int .i64 1], 28, true, 2⟩), (3, ⟨[.int .i64 0, .int .i64 1], 28, true, 2⟩), (4, ⟨[.int .i64 1, .int .i64 0], 28, true, 2⟩), (5, ⟨[.int .i64 0, .int .i64 0, .int .i64 0, .int .i64 0], 90, true, 4⟩)] ?_
  refine aw_fl 239 ?_
  refine aw_p 479 (
    .a 2 6 <| .nil _ _) ?_
  refine aw_fl 959 ?_
  refine aw_sk ?_
  refine block_normal ?_
  refine then_normal ?_
  refine aw_sq 30 31 ?_
  refine aw_p 61 (
    .a 4 6 <| .p (does_c (au_terrkeep1_42)) <| .a 1 6 <| .nil _ _) ?_
  refine aw_p 123 (
    .a 3 6 <| .nil _ _) ?_
  refine aw_fl 247 ?_
  refine aw_sk ?_
  refine then_normal ?_
  refine aw_p 63 (
    .a 3 6 <| .p (does_c (au_terrkeep1_28)) <| .a 1 6 <| .nil _ _) ?_
  refine aw_p 127 (
    .a 4 6 <| .p (does_c (au_terrkeep1_31)) <| .a 2 6 <| .nil _ _) ?_
  refine aw_sq 254 255 ?_
  refine aw_p 509 (
    .a 2 6 <| .nil _ _) ?_
  refine aw_w [(0, .agg #[.int .i64 0, .int .i64 0]), (1, .agg #[.int .i64 1, .int .i64 1]), (2, .agg #[.int .i64 0, .int .i64 1]), (3, .agg #[.int .i64 1, .int .i64 0]), (4, .pointer (some ⟨1, 0, none⟩)), (5, .pointer (some ⟨2, 0, none⟩)), (6, .pointer (some ⟨3, 0, none⟩)), (7, .pointer (some ⟨4, 0, none⟩)), (8, .pointer (some ⟨5, 0, none⟩)), (9, .int .i64 0), (10, .slice none 0 0), (11, .int .i64 (-1)), (12, .int .i64 (-2)), (13, .agg #[.int .i64 0, .int .i64 0]), (14, .agg #[.int .i64 0, .int .i64 0]), (15, .agg #[.int .i64 1, .int .i64 1]), (16, .agg #[.int .i64 1, .int .i64 1]), (17, .agg #[.int .i64 0, .int .i64 1]), (18, .agg #[.int .i64 0, .int .i64 1]), (19, .agg #[.int .i64 1, .int .i64 0]), (20, .agg #[.int .i64 1, .int .i64 0]), (21, .agg #[.int .i64 0, .int .i64 0]), (22, .agg #[.int .i64 1, .int .i64 1]), (23, .agg #[.int .i64 0, .int .i64 1]), (24, .agg #[.int .i64 1, .int .i64 0]), (25, .int .i64 1), (26, .bool false), (29, .bool false), (30, .bool false), (32, .agg #[.int .i64 0, .int .i64 0]), (33, .agg #[.int .i64 1, .int .i64 1]), (34, .agg #[.int .i64 0, .int .i64 1]), (35, .agg #[.int .i64 1, .int .i64 0]), (36, .slice none 0 0), (37, .slice none 0 0), (38, .int .i64 0), (39, .bool false), (44, .agg #[.int .i64 0, .int .i64 1]), (45, .agg #[.int .i64 1, .int .i64 0]), (46, .agg #[.int .i64 0, .int .i64 0]), (47, .int .i64 (-1)), (48, .int .i64 (-1)), (49, .agg #[.int .i64 0, .int .i64 1]), (50, .agg #[.int .i64 1, .int .i64 0]), (51, .agg #[.int .i64 1, .int .i64 1]), (52, .int .i64 1), (53, .int .i64 (-2)), (55, .bool true)] [(1, ⟨[.int .i64 0, .int .i64 0], 28, true, 2⟩), (2, ⟨[.int .i64 1, .int .i64 1], 28, true, 2⟩), (3, ⟨[.int .i64 0, .int .i64 1], 28, true, 2⟩), (4, ⟨[.int .i64 1, .int .i64 0], 28, true, 2⟩), (5, ⟨[.int .i64 0, .int .i64 0, .int .i64 0, .int .i64 0], 90, true, 4⟩)] ?_
  refine aw_tr 1018 ?_
  refine aw_p1 (
    .a 6 6 <| .nil _ _) ?_
  refine then_normal ?_
  refine aw_d 511 (
    .a 9 6 <| .p (does_c (au_terrkeep1_74)) <| .a 9 6 <| .p (does_c (au_terrkeep1_74)) <| .a 3 6 <| .nil _ _) ?_
  refine aw_w [(0, .agg #[.int .i64 0, .int .i64 0]), (1, .agg #[.int .i64 1, .int .i64 1]), (2, .agg #[.int .i64 0, .int .i64 1]), (3, .agg #[.int .i64 1, .int .i64 0]), (4, .pointer (some ⟨1, 0, none⟩)), (5, .pointer (some ⟨2, 0, none⟩)), (6, .pointer (some ⟨3, 0, none⟩)), (7, .pointer (some ⟨4, 0, none⟩)), (8, .pointer (some ⟨5, 0, none⟩)), (9, .int .i64 0), (10, .slice none 0 0), (11, .int .i64 1), (12, .int .i64 2), (13, .agg #[.int .i64 0, .int .i64 0]), (14, .agg #[.int .i64 0, .int .i64 0]), (15, .agg #[.int .i64 1, .int .i64 1]), (16, .agg #[.int .i64 1, .int .i64 1]), (17, .agg #[.int .i64 0, .int .i64 1]), (18, .agg #[.int .i64 0, .int .i64 1]), (19, .agg #[.int .i64 1, .int .i64 0]), (20, .agg #[.int .i64 1, .int .i64 0]), (21, .agg #[.int .i64 0, .int .i64 0]), (22, .agg #[.int .i64 1, .int .i64 1]), (23, .agg #[.int .i64 0, .int .i64 1]), (24, .agg #[.int .i64 1, .int .i64 0]), (25, .int .i64 1), (26, .bool false), (29, .bool false), (30, .bool false), (32, .agg #[.int .i64 0, .int .i64 0]), (33, .agg #[.int .i64 1, .int .i64 1]), (34, .agg #[.int .i64 0, .int .i64 1]), (35, .agg #[.int .i64 1, .int .i64 0]), (36, .slice none 0 0), (37, .slice none 0 0), (38, .int .i64 0), (39, .bool false), (44, .agg #[.int .i64 0, .int .i64 1]), (45, .agg #[.int .i64 1, .int .i64 0]), (46, .agg #[.int .i64 0, .int .i64 0]), (47, .int .i64 (-1)), (48, .int .i64 (-1)), (49, .agg #[.int .i64 0, .int .i64 1]), (50, .agg #[.int .i64 1, .int .i64 0]), (51, .agg #[.int .i64 1, .int .i64 1]), (52, .int .i64 1), (53, .int .i64 (-2)), (55, .bool true), (56, .int .i64 (-1)), (57, .int .i64 1), (58, .int .i64 (-2)), (59, .int .i64 2)] [(1, ⟨[.int .i64 0, .int .i64 0], 28, true, 2⟩), (2, ⟨[.int .i64 1, .int .i64 1], 28, true, 2⟩), (3, ⟨[.int .i64 0, .int .i64 1], 28, true, 2⟩), (4, ⟨[.int .i64 1, .int .i64 0], 28, true, 2⟩), (5, ⟨[.int .i64 1, .int .i64 2, .int .i64 1, .int .i64 2], 90, true, 4⟩)] ?_
  refine aw_rt ?_
  exact en_ret [.agg #[.int .i64 1, .int .i64 2, .int .i64 1, .int .i64 2], .int .i64 0] (by kernel_rfl)

theorem au_terrkeep1_76  :
    AC Try.prog 95 0 ([.int .i64 2, .int .i64 1048576]) [] (.int .i64 2) [] := by
  refine ac_in Try.func95 (fun w0 W pin => ?_)
  refine aw_p 3 (
    .a 1 1 <| .nil _ _) ?_
  refine aw_p 7 (
    .a 7 1 <| .nil _ _) ?_
  refine aw_rt ?_
  exact en_ret [.int .i64 2] (by kernel_rfl)

theorem au_terrkeep1_77  :
    AC Try.prog 55 0 ([.agg #[.int .i64 2, .int .i64 0]]) [] (.agg #[.int .i64 2, .int .i64 0]) [] := by
  refine ac_in Try.func55 (fun w0 W pin => ?_)
  refine aw_p 3 (
    .a 2 1 <| .nil _ _) ?_
  refine aw_d 7 (
    .a 2 3 <| .p (does_c (au_terrkeep1_76)) <| .a 2 3 <| .p (does_c (au_terrkeep1_8)) <| .a 2 3 <| .nil _ _) ?_
  refine aw_rt ?_
  exact en_ret [.agg #[.int .i64 2, .int .i64 0]] (by kernel_rfl)

theorem au_terrkeep1_78  :
    AC Try.prog 118 0 ([.agg #[.int .i64 0, .int .i64 0], .agg #[.int .i64 2, .int .i64 0]]) [] (.agg #[.int .i64 2, .int .i64 0]) [] := by
  refine ac_in Try.func118 (fun w0 W pin => ?_)
  refine aw_p 3 (
    .a 3 1 <| .nil _ _) ?_
  refine aw_d 7 (
    .a 1 4 <| .p (does_c (au_terrkeep1_9)) <| .a 1 4 <| .p (does_c (au_terrkeep1_77)) <| .a 2 4 <| .nil _ _) ?_
  refine aw_p 15 (
    .a 12 4 <| .nil _ _) ?_
  refine aw_rt ?_
  exact en_ret [.agg #[.int .i64 2, .int .i64 0]] (by kernel_rfl)

theorem au_terrkeep1_79  :
    AC Try.prog 87 0 ([.agg #[.int .i64 0, .int .i64 0], .agg #[.int .i64 2, .int .i64 0], .agg #[.int .i64 1, .int .i64 1]]) [] (.int .i64 2) [] := by
  refine ac_in Try.func87 (fun w0 W pin => ?_)
  refine aw_p 3 (
    .a 4 1 <| .nil _ _) ?_
  refine aw_d 7 (
    .a 2 4 <| .p (does_c (au_terrkeep1_78)) <| .a 2 4 <| .p (does_c (au_terrkeep1_14)) <| .a 4 4 <| .nil _ _) ?_
  refine aw_p 15 (
    .a 12 6 <| .nil _ _) ?_
  refine aw_w [(0, .agg #[.int .i64 0, .int .i64 0]), (1, .agg #[.int .i64 2, .int .i64 0]), (2, .agg #[.int .i64 1, .int .i64 1]), (3, .pointer (some ⟨1, 0, none⟩)), (4, .pointer (some ⟨2, 0, none⟩)), (5, .pointer (some ⟨3, 0, none⟩)), (6, .int .i64 2), (7, .pointer (some ⟨4, 0, none⟩)), (8, .pointer (some ⟨5, 0, none⟩)), (9, .agg #[.int .i64 0, .int .i64 0]), (10, .agg #[.int .i64 2, .int .i64 0]), (11, .agg #[.int .i64 2, .int .i64 0]), (12, .agg #[.int .i64 0, .int .i64 0]), (13, .agg #[.int .i64 1, .int .i64 1]), (14, .agg #[.int .i64 1, .int .i64 1])] [(1, ⟨[.int .i64 0, .int .i64 0], 28, true, 2⟩), (2, ⟨[.int .i64 2, .int .i64 0], 28, true, 2⟩), (3, ⟨[.int .i64 1, .int .i64 1], 28, true, 2⟩), (4, ⟨[.int .i64 2, .int .i64 0], 28, true, 2⟩), (5, ⟨[.int .i64 1, .int .i64 1], 28, true, 2⟩)] ?_
  refine aw_rt ?_
  exact en_ret [.int .i64 2] (by kernel_rfl)

theorem au_terrkeep1_80  :
    AC Try.prog 120 0 ([.int .i64 2]) [] (.bool false) [] := by
  refine ac_in Try.func120 (fun w0 W pin => ?_)
  refine aw_p 3 (
    .a 1 1 <| .nil _ _) ?_
  refine aw_p 7 (
    .a 4 1 <| .nil _ _) ?_
  refine aw_rt ?_
  exact en_ret [.bool false] (by kernel_rfl)

theorem au_terrkeep1_81  :
    AC Try.prog 97 0 ([.int .i64 2, .int .i64 0]) [] (.int .i64 1) [] := by
  refine ac_in Try.func97 (fun w0 W pin => ?_)
  refine aw_p 3 (
    .a 1 1 <| .nil _ _) ?_
  refine aw_p 7 (
    .a 1 1 <| .p (does_c (au_terrkeep1_80)) <| .a 1 1 <| .nil _ _) ?_
  refine aw_p 15 (
    .a 1 1 <| .p (does_c (au_terrkeep1_18)) <| .a 1 1 <| .nil _ _) ?_
  refine aw_sq 30 31 ?_
  refine aw_p 61 (
    .a 1 1 <| .nil _ _) ?_
  refine aw_fl 123 ?_
  refine aw_sk ?_
  refine then_normal ?_
  refine aw_sq 62 63 ?_
  refine aw_p 125 (
    .a 1 1 <| .nil _ _) ?_
  refine aw_fl 251 ?_
  refine aw_sk ?_
  refine then_normal ?_
  refine aw_sq 126 127 ?_
  refine aw_p 253 (
    .a 3 1 <| .nil _ _) ?_
  refine aw_fl 507 ?_
  refine aw_sk ?_
  refine then_normal ?_
  refine aw_sq 254 255 ?_
  refine aw_p 509 (
    .a 3 1 <| .nil _ _) ?_
  refine aw_tr 1018 ?_
  refine aw_p 2037 (
    .a 1 1 <| .nil _ _) ?_
  refine aw_rt ?_
  refine then_ret ?_
  exact en_ret [.int .i64 1] (by kernel_rfl)

theorem au_terrkeep1_82  :
    AC Try.prog 57 0 ([.agg #[.int .i64 0, .int .i64 0], .agg #[.int .i64 2, .int .i64 0], .agg #[.int .i64 1, .int .i64 1]]) [] (.int .i64 1) [] := by
  refine ac_in Try.func57 (fun w0 W pin => ?_)
  refine aw_p 3 (
    .a 4 1 <| .nil _ _) ?_
  refine aw_p 7 (
    .a 3 4 <| .p (does_c (au_terrkeep1_79)) <| .p (does_c (au_terrkeep1_81)) <| .a 1 4 <| .nil _ _) ?_
  refine aw_rt ?_
  exact en_ret [.int .i64 1] (by kernel_rfl)

theorem au_terrkeep1_83  :
    AC Try.prog 49 0 ([.int .i64 3, .int .i64 4]) [] (.agg #[.int .i64 3, .int .i64 4]) [] := by
  refine ac_in Try.func49 (fun w0 W pin => ?_)
  refine aw_p 3 (
    .a 1 1 <| .nil _ _) ?_
  refine aw_p 7 (
    .a 4 2 <| .nil _ _) ?_
  refine aw_rt ?_
  exact en_ret [.agg #[.int .i64 3, .int .i64 4]] (by kernel_rfl)

theorem au_terrkeep1_84  :
    AC Try.prog 95 0 ([.int .i64 3, .int .i64 1048576]) [] (.int .i64 3) [] := by
  refine ac_in Try.func95 (fun w0 W pin => ?_)
  refine aw_p 3 (
    .a 1 1 <| .nil _ _) ?_
  refine aw_p 7 (
    .a 7 1 <| .nil _ _) ?_
  refine aw_rt ?_
  exact en_ret [.int .i64 3] (by kernel_rfl)

theorem au_terrkeep1_85  :
    AC Try.prog 95 0 ([.int .i64 4, .int .i64 1048576]) [] (.int .i64 4) [] := by
  refine ac_in Try.func95 (fun w0 W pin => ?_)
  refine aw_p 3 (
    .a 1 1 <| .nil _ _) ?_
  refine aw_p 7 (
    .a 7 1 <| .nil _ _) ?_
  refine aw_rt ?_
  exact en_ret [.int .i64 4] (by kernel_rfl)

theorem au_terrkeep1_86  :
    AC Try.prog 55 0 ([.agg #[.int .i64 3, .int .i64 4]]) [] (.agg #[.int .i64 3, .int .i64 4]) [] := by
  refine ac_in Try.func55 (fun w0 W pin => ?_)
  refine aw_p 3 (
    .a 2 1 <| .nil _ _) ?_
  refine aw_d 7 (
    .a 2 3 <| .p (does_c (au_terrkeep1_84)) <| .a 2 3 <| .p (does_c (au_terrkeep1_85)) <| .a 2 3 <| .nil _ _) ?_
  refine aw_rt ?_
  exact en_ret [.agg #[.int .i64 3, .int .i64 4]] (by kernel_rfl)

theorem au_terrkeep1_87  :
    AC Try.prog 118 0 ([.agg #[.int .i64 0, .int .i64 0], .agg #[.int .i64 3, .int .i64 4]]) [] (.agg #[.int .i64 3, .int .i64 4]) [] := by
  refine ac_in Try.func118 (fun w0 W pin => ?_)
  refine aw_p 3 (
    .a 3 1 <| .nil _ _) ?_
  refine aw_d 7 (
    .a 1 4 <| .p (does_c (au_terrkeep1_9)) <| .a 1 4 <| .p (does_c (au_terrkeep1_86)) <| .a 2 4 <| .nil _ _) ?_
  refine aw_p 15 (
    .a 12 4 <| .nil _ _) ?_
  refine aw_rt ?_
  exact en_ret [.agg #[.int .i64 3, .int .i64 4]] (by kernel_rfl)

theorem au_terrkeep1_88  :
    AC Try.prog 96 0 ([.agg #[.int .i64 0, .int .i64 0], .agg #[.int .i64 3, .int .i64 4], .agg #[.int .i64 3, .int .i64 4]]) [] (.int .i64 25) [] := by
  refine ac_in Try.func96 (fun w0 W pin => ?_)
  refine aw_p 3 (
    .a 4 1 <| .nil _ _) ?_
  refine aw_d 7 (
    .a 2 4 <| .p (does_c (au_terrkeep1_87)) <| .a 2 4 <| .p (does_c (au_terrkeep1_87)) <| .a 4 4 <| .nil _ _) ?_
  refine aw_p 15 (
    .a 12 6 <| .nil _ _) ?_
  refine aw_w [(0, .agg #[.int .i64 0, .int .i64 0]), (1, .agg #[.int .i64 3, .int .i64 4]), (2, .agg #[.int .i64 3, .int .i64 4]), (3, .pointer (some ⟨1, 0, none⟩)), (4, .pointer (some ⟨2, 0, none⟩)), (5, .pointer (some ⟨3, 0, none⟩)), (6, .int .i64 25), (7, .pointer (some ⟨4, 0, none⟩)), (8, .pointer (some ⟨5, 0, none⟩)), (9, .agg #[.int .i64 0, .int .i64 0]), (10, .agg #[.int .i64 3, .int .i64 4]), (11, .agg #[.int .i64 3, .int .i64 4]), (12, .agg #[.int .i64 0, .int .i64 0]), (13, .agg #[.int .i64 3, .int .i64 4]), (14, .agg #[.int .i64 3, .int .i64 4])] [(1, ⟨[.int .i64 0, .int .i64 0], 28, true, 2⟩), (2, ⟨[.int .i64 3, .int .i64 4], 28, true, 2⟩), (3, ⟨[.int .i64 3, .int .i64 4], 28, true, 2⟩), (4, ⟨[.int .i64 3, .int .i64 4], 28, true, 2⟩), (5, ⟨[.int .i64 3, .int .i64 4], 28, true, 2⟩)] ?_
  refine aw_rt ?_
  exact en_ret [.int .i64 25] (by kernel_rfl)

theorem au_terrkeep1_89  :
    AC Try.prog 92 0 ([.agg #[.int .i64 0, .int .i64 0], .agg #[.int .i64 3, .int .i64 4]]) [] (.int .i64 25) [] := by
  refine ac_in Try.func92 (fun w0 W pin => ?_)
  refine aw_p 3 (
    .a 3 1 <| .nil _ _) ?_
  refine aw_p 7 (
    .a 3 3 <| .p (does_c (au_terrkeep1_88)) <| .a 1 3 <| .nil _ _) ?_
  refine aw_rt ?_
  exact en_ret [.int .i64 25] (by kernel_rfl)

theorem au_terrkeep1_90  :
    AC Try.prog 119 0 ([]) [] (.bool true) [] := by
  refine ac_in Try.func119 (fun w0 W pin => ?_)
  refine aw_p 3 (
    .a 1 1 <| .nil _ _) ?_
  refine aw_p 7 (
    .p (does_c (au_terrkeep1_1)) <| .p (does_c (au_terrkeep1_2)) <| .p (does_c (au_terrkeep1_5)) <| .p (does_c (au_terrkeep1_82)) <| .a 2 1 <| .p (does_c (au_terrkeep1_1)) <| .p (does_c (au_terrkeep1_83)) <| .p (does_c (au_terrkeep1_89)) <| .a 3 1 <| .nil _ _) ?_
  refine aw_rt ?_
  exact en_ret [.bool true] (by kernel_rfl)

theorem au_terrkeep1_91  :
    AC Try.prog 93 0 ([]) [] (.bool true) [] := by
  refine ac_in Try.func93 (fun w0 W pin => ?_)
  refine aw_p 3 (
    .a 1 1 <| .nil _ _) ?_
  refine aw_p 7 (
    .p (does_c (au_terrkeep1_1)) <| .p (does_c (au_terrkeep1_5)) <| .p (does_c (au_terrkeep1_6)) <| .p (does_c (au_terrkeep1_7)) <| .p (does_c (au_terrkeep1_75)) <| .a 6 1 <| .nil _ _) ?_
  refine aw_p 15 (
    .p (does_c (au_terrkeep1_90)) <| .a 9 2 <| .p (does_e true ((show (((1 == 1) && ((2 == 2) && true)) && (((1 == 1) && ((2 == 2) && true)) && true)) = true from by decide))) <| .a 2 2 <| .nil _ _) ?_
  refine aw_w [(0, .bool true), (1, .pointer (some ⟨1, 0, none⟩)), (3, .tuple #[.agg #[.int .i64 1, .int .i64 2, .int .i64 1, .int .i64 2], .int .i64 0]), (4, .agg #[.int .i64 0, .int .i64 0]), (5, .agg #[.int .i64 1, .int .i64 1]), (6, .agg #[.int .i64 0, .int .i64 1]), (7, .agg #[.int .i64 1, .int .i64 0]), (8, .tuple #[.agg #[.int .i64 1, .int .i64 2, .int .i64 1, .int .i64 2], .int .i64 0]), (9, .agg #[.int .i64 1, .int .i64 2, .int .i64 1, .int .i64 2]), (10, .int .i64 0)] [(1, ⟨[.int .i64 1, .int .i64 2, .int .i64 1, .int .i64 2], 90, true, 4⟩)] ?_
  refine aw_rt ?_
  exact en_ret [.bool true] (by kernel_rfl)

theorem au_terrkeep1_92  :
    AC Try.prog 55 0 ([.agg #[.int .i64 2, .int .i64 2]]) [] (.agg #[.int .i64 2, .int .i64 2]) [] := by
  refine ac_in Try.func55 (fun w0 W pin => ?_)
  refine aw_p 3 (
    .a 2 1 <| .nil _ _) ?_
  refine aw_d 7 (
    .a 2 3 <| .p (does_c (au_terrkeep1_76)) <| .a 2 3 <| .p (does_c (au_terrkeep1_76)) <| .a 2 3 <| .nil _ _) ?_
  refine aw_rt ?_
  exact en_ret [.agg #[.int .i64 2, .int .i64 2]] (by kernel_rfl)

theorem au_terrkeep1_93  :
    AC Try.prog 118 0 ([.agg #[.int .i64 0, .int .i64 0], .agg #[.int .i64 2, .int .i64 2]]) [] (.agg #[.int .i64 2, .int .i64 2]) [] := by
  refine ac_in Try.func118 (fun w0 W pin => ?_)
  refine aw_p 3 (
    .a 3 1 <| .nil _ _) ?_
  refine aw_d 7 (
    .a 1 4 <| .p (does_c (au_terrkeep1_9)) <| .a 1 4 <| .p (does_c (au_terrkeep1_92)) <| .a 2 4 <| .nil _ _) ?_
  refine aw_p 15 (
    .a 12 4 <| .nil _ _) ?_
  refine aw_rt ?_
  exact en_ret [.agg #[.int .i64 2, .int .i64 2]] (by kernel_rfl)

theorem au_terrkeep1_94  :
    AC Try.prog 87 0 ([.agg #[.int .i64 0, .int .i64 0], .agg #[.int .i64 2, .int .i64 0], .agg #[.int .i64 2, .int .i64 2]]) [] (.int .i64 4) [] := by
  refine ac_in Try.func87 (fun w0 W pin => ?_)
  refine aw_p 3 (
    .a 4 1 <| .nil _ _) ?_
  refine aw_d 7 (
    .a 2 4 <| .p (does_c (au_terrkeep1_78)) <| .a 2 4 <| .p (does_c (au_terrkeep1_93)) <| .a 4 4 <| .nil _ _) ?_
  refine aw_p 15 (
    .a 12 6 <| .nil _ _) ?_
  refine aw_w [(0, .agg #[.int .i64 0, .int .i64 0]), (1, .agg #[.int .i64 2, .int .i64 0]), (2, .agg #[.int .i64 2, .int .i64 2]), (3, .pointer (some ⟨1, 0, none⟩)), (4, .pointer (some ⟨2, 0, none⟩)), (5, .pointer (some ⟨3, 0, none⟩)), (6, .int .i64 4), (7, .pointer (some ⟨4, 0, none⟩)), (8, .pointer (some ⟨5, 0, none⟩)), (9, .agg #[.int .i64 0, .int .i64 0]), (10, .agg #[.int .i64 2, .int .i64 0]), (11, .agg #[.int .i64 2, .int .i64 0]), (12, .agg #[.int .i64 0, .int .i64 0]), (13, .agg #[.int .i64 2, .int .i64 2]), (14, .agg #[.int .i64 2, .int .i64 2])] [(1, ⟨[.int .i64 0, .int .i64 0], 28, true, 2⟩), (2, ⟨[.int .i64 2, .int .i64 0], 28, true, 2⟩), (3, ⟨[.int .i64 2, .int .i64 2], 28, true, 2⟩), (4, ⟨[.int .i64 2, .int .i64 0], 28, true, 2⟩), (5, ⟨[.int .i64 2, .int .i64 2], 28, true, 2⟩)] ?_
  refine aw_rt ?_
  exact en_ret [.int .i64 4] (by kernel_rfl)

theorem au_terrkeep1_95  :
    AC Try.prog 55 0 ([.agg #[.int .i64 0, .int .i64 2]]) [] (.agg #[.int .i64 0, .int .i64 2]) [] := by
  refine ac_in Try.func55 (fun w0 W pin => ?_)
  refine aw_p 3 (
    .a 2 1 <| .nil _ _) ?_
  refine aw_d 7 (
    .a 2 3 <| .p (does_c (au_terrkeep1_8)) <| .a 2 3 <| .p (does_c (au_terrkeep1_76)) <| .a 2 3 <| .nil _ _) ?_
  refine aw_rt ?_
  exact en_ret [.agg #[.int .i64 0, .int .i64 2]] (by kernel_rfl)

theorem au_terrkeep1_96  :
    AC Try.prog 118 0 ([.agg #[.int .i64 0, .int .i64 0], .agg #[.int .i64 0, .int .i64 2]]) [] (.agg #[.int .i64 0, .int .i64 2]) [] := by
  refine ac_in Try.func118 (fun w0 W pin => ?_)
  refine aw_p 3 (
    .a 3 1 <| .nil _ _) ?_
  refine aw_d 7 (
    .a 1 4 <| .p (does_c (au_terrkeep1_9)) <| .a 1 4 <| .p (does_c (au_terrkeep1_95)) <| .a 2 4 <| .nil _ _) ?_
  refine aw_p 15 (
    .a 12 4 <| .nil _ _) ?_
  refine aw_rt ?_
  exact en_ret [.agg #[.int .i64 0, .int .i64 2]] (by kernel_rfl)

theorem au_terrkeep1_97  :
    AC Try.prog 87 0 ([.agg #[.int .i64 0, .int .i64 0], .agg #[.int .i64 2, .int .i64 2], .agg #[.int .i64 0, .int .i64 2]]) [] (.int .i64 4) [] := by
  refine ac_in Try.func87 (fun w0 W pin => ?_)
  refine aw_p 3 (
    .a 4 1 <| .nil _ _) ?_
  refine aw_d 7 (
    .a 2 4 <| .p (does_c (au_terrkeep1_93)) <| .a 2 4 <| .p (does_c (au_terrkeep1_96)) <| .a 4 4 <| .nil _ _) ?_
  refine aw_p 15 (
    .a 12 6 <| .nil _ _) ?_
  refine aw_w [(0, .agg #[.int .i64 0, .int .i64 0]), (1, .agg #[.int .i64 2, .int .i64 2]), (2, .agg #[.int .i64 0, .int .i64 2]), (3, .pointer (some ⟨1, 0, none⟩)), (4, .pointer (some ⟨2, 0, none⟩)), (5, .pointer (some ⟨3, 0, none⟩)), (6, .int .i64 4), (7, .pointer (some ⟨4, 0, none⟩)), (8, .pointer (some ⟨5, 0, none⟩)), (9, .agg #[.int .i64 0, .int .i64 0]), (10, .agg #[.int .i64 2, .int .i64 2]), (11, .agg #[.int .i64 2, .int .i64 2]), (12, .agg #[.int .i64 0, .int .i64 0]), (13, .agg #[.int .i64 0, .int .i64 2]), (14, .agg #[.int .i64 0, .int .i64 2])] [(1, ⟨[.int .i64 0, .int .i64 0], 28, true, 2⟩), (2, ⟨[.int .i64 2, .int .i64 2], 28, true, 2⟩), (3, ⟨[.int .i64 0, .int .i64 2], 28, true, 2⟩), (4, ⟨[.int .i64 2, .int .i64 2], 28, true, 2⟩), (5, ⟨[.int .i64 0, .int .i64 2], 28, true, 2⟩)] ?_
  refine aw_rt ?_
  exact en_ret [.int .i64 4] (by kernel_rfl)

theorem au_terrkeep1_98  :
    AC Try.prog 39 1 ([.slice (some ⟨0, 0, none⟩) 4 0]) [(0, ⟨[.int .i64 0, .int .i64 0, .int .i64 2, .int .i64 0, .int .i64 2, .int .i64 2, .int .i64 0, .int .i64 2], 28, true, 2⟩)] (.int .i64 8) [(0, ⟨[.int .i64 0, .int .i64 0, .int .i64 2, .int .i64 0, .int .i64 2, .int .i64 2, .int .i64 0, .int .i64 2], 28, true, 2⟩)] := by
  refine ac_in Try.func39 (fun w0 W pin => ?_)
  refine aw_p 3 (
    .a 1 1 <| .nil _ _) ?_
  refine aw_p 7 (
    .a 1 1 <| .nil _ _) ?_
  refine aw_sq 14 15 ?_
  refine aw_p 29 (
    .a 1 1 <| .nil _ _) ?_
  refine aw_bl 0 59 ?_
  refine aw_lp 119 ?_
  refine al_round ?_
  refine aw_sq 238 239 ?_
  refine aw_p 477 (
    .a 4 1 <| .nil _ _) ?_
  refine aw_tr 954 ?_
  refine aw_sk ?_
  refine then_normal ?_
  refine aw_sq 478 479 ?_
  refine aw_bl 1 957 ?_
  refine aw_d1 (
    .a 13 1 <| .p (does_c (au_terrkeep1_94)) <| .a 2 1 <| .nil _ _) ?_
  refine block_normal ?_
  refine then_normal ?_
  refine aw_p1 (
    .a 3 1 <| .nil _ _) ?_
  refine then_normal ?_
  refine al_round ?_
  refine aw_sq 238 239 ?_
  refine aw_p 477 (
    .a 4 1 <| .nil _ _) ?_
  refine aw_w [(0, .slice (some ⟨0, 0, none⟩) 4 0), (2, .int .i64 0), (3, .int .i64 4), (4, .int .i64 3), (5, .int .i64 3), (6, .slice (some ⟨0, 0, none⟩) 4 0), (7, .int .i64 4), (8, .bool true), (9, .int .i64 2), (10, .int .i64 3), (11, .int .i64 0), (12, .slice (some ⟨0, 0, none⟩) 4 0), (13, .pointer (some ⟨0, 0, none⟩)), (14, .agg #[.int .i64 0, .int .i64 0]), (15, .slice (some ⟨0, 0, none⟩) 4 0), (16, .int .i64 2), (17, .int .i64 1), (18, .pointer (some ⟨0, 2, none⟩)), (19, .agg #[.int .i64 2, .int .i64 0]), (20, .slice (some ⟨0, 0, none⟩) 4 0), (21, .int .i64 2), (22, .pointer (some ⟨0, 4, none⟩)), (23, .agg #[.int .i64 2, .int .i64 2]), (24, .int .i64 4), (25, .int .i64 4)] [(0, ⟨[.int .i64 0, .int .i64 0, .int .i64 2, .int .i64 0, .int .i64 2, .int .i64 2, .int .i64 0, .int .i64 2], 28, true, 2⟩)] ?_
  refine aw_tr 954 ?_
  refine aw_sk ?_
  refine then_normal ?_
  refine aw_sq 478 479 ?_
  refine aw_bl 1 957 ?_
  refine aw_d1 (
    .a 13 1 <| .p (does_c (au_terrkeep1_97)) <| .a 2 1 <| .nil _ _) ?_
  refine block_normal ?_
  refine then_normal ?_
  refine aw_p1 (
    .a 3 1 <| .nil _ _) ?_
  refine then_normal ?_
  refine al_round ?_
  refine aw_sq 238 239 ?_
  refine aw_p 477 (
    .a 4 1 <| .nil _ _) ?_
  refine aw_fl 955 ?_
  refine aw_ex 0 ?_
  refine then_exit ?_
  refine then_exit ?_
  refine block_exit ?_
  refine then_normal ?_
  refine aw_p 31 (
    .a 2 1 <| .nil _ _) ?_
  refine aw_w [(0, .slice (some ⟨0, 0, none⟩) 4 0), (2, .int .i64 8), (3, .int .i64 8), (4, .int .i64 4), (5, .int .i64 4), (6, .slice (some ⟨0, 0, none⟩) 4 0), (7, .int .i64 4), (8, .bool false), (9, .int .i64 3), (10, .int .i64 4), (11, .int .i64 4), (12, .slice (some ⟨0, 0, none⟩) 4 0), (13, .pointer (some ⟨0, 0, none⟩)), (14, .agg #[.int .i64 0, .int .i64 0]), (15, .slice (some ⟨0, 0, none⟩) 4 0), (16, .int .i64 3), (17, .int .i64 2), (18, .pointer (some ⟨0, 4, none⟩)), (19, .agg #[.int .i64 2, .int .i64 2]), (20, .slice (some ⟨0, 0, none⟩) 4 0), (21, .int .i64 3), (22, .pointer (some ⟨0, 6, none⟩)), (23, .agg #[.int .i64 0, .int .i64 2]), (24, .int .i64 4), (25, .int .i64 8)] [(0, ⟨[.int .i64 0, .int .i64 0, .int .i64 2, .int .i64 0, .int .i64 2, .int .i64 2, .int .i64 0, .int .i64 2], 28, true, 2⟩)] ?_
  refine aw_rt ?_
  exact en_ret [.int .i64 8] (by kernel_rfl)

theorem au_terrkeep1_99  :
    AC Try.prog 38 0 ([.slice none 0 0]) [] (.int .i64 3) [] := by
  refine ac_in Try.func38 (fun w0 W pin => ?_)
  refine aw_p 3 (
    .a 1 1 <| .nil _ _) ?_
  refine aw_p 7 (
    .a 3 1 <| .nil _ _) ?_
  refine aw_sq 14 15 ?_
  refine aw_bl 0 29 ?_
  refine aw_p 59 (
    .a 3 1 <| .nil _ _) ?_
  refine aw_fl 119 ?_
  refine aw_p 239 (
    .a 3 1 <| .nil _ _) ?_
  refine aw_tr 478 ?_
  refine aw_p 957 (
    .a 1 1 <| .nil _ _) ?_
  refine aw_rt ?_
  refine block_ret ?_
  refine then_ret ?_
  exact en_ret [.int .i64 3] (by kernel_rfl)

theorem au_terrkeep1_100  :
    AC Try.prog 56 0 ([.agg #[.int .i64 0, .int .i64 0], .agg #[.int .i64 2, .int .i64 0], .agg #[.int .i64 1, .int .i64 1]]) [] (.bool false) [] := by
  refine ac_in Try.func56 (fun w0 W pin => ?_)
  refine aw_p 3 (
    .a 4 1 <| .nil _ _) ?_
  refine aw_p 7 (
    .a 3 4 <| .p (does_c (au_terrkeep1_82)) <| .a 9 4 <| .nil _ _) ?_
  refine aw_rt ?_
  exact en_ret [.bool false] (by kernel_rfl)

theorem au_terrkeep1_101  :
    AC Try.prog 118 0 ([.agg #[.int .i64 2, .int .i64 0], .agg #[.int .i64 2, .int .i64 2]]) [] (.agg #[.int .i64 0, .int .i64 2]) [] := by
  refine ac_in Try.func118 (fun w0 W pin => ?_)
  refine aw_p 3 (
    .a 3 1 <| .nil _ _) ?_
  refine aw_d 7 (
    .a 1 4 <| .p (does_c (au_terrkeep1_77)) <| .a 1 4 <| .p (does_c (au_terrkeep1_92)) <| .a 2 4 <| .nil _ _) ?_
  refine aw_p 15 (
    .a 12 4 <| .nil _ _) ?_
  refine aw_rt ?_
  exact en_ret [.agg #[.int .i64 0, .int .i64 2]] (by kernel_rfl)

theorem au_terrkeep1_102  :
    AC Try.prog 118 0 ([.agg #[.int .i64 2, .int .i64 0], .agg #[.int .i64 1, .int .i64 1]]) [] (.agg #[.int .i64 (-1), .int .i64 1]) [] := by
  refine ac_in Try.func118 (fun w0 W pin => ?_)
  refine aw_p 3 (
    .a 3 1 <| .nil _ _) ?_
  refine aw_d 7 (
    .a 1 4 <| .p (does_c (au_terrkeep1_77)) <| .a 1 4 <| .p (does_c (au_terrkeep1_11)) <| .a 2 4 <| .nil _ _) ?_
  refine aw_p 15 (
    .a 12 4 <| .nil _ _) ?_
  refine aw_rt ?_
  exact en_ret [.agg #[.int .i64 (-1), .int .i64 1]] (by kernel_rfl)

theorem au_terrkeep1_103  :
    AC Try.prog 87 0 ([.agg #[.int .i64 2, .int .i64 0], .agg #[.int .i64 2, .int .i64 2], .agg #[.int .i64 1, .int .i64 1]]) [] (.int .i64 2) [] := by
  refine ac_in Try.func87 (fun w0 W pin => ?_)
  refine aw_p 3 (
    .a 4 1 <| .nil _ _) ?_
  refine aw_d 7 (
    .a 2 4 <| .p (does_c (au_terrkeep1_101)) <| .a 2 4 <| .p (does_c (au_terrkeep1_102)) <| .a 4 4 <| .nil _ _) ?_
  refine aw_p 15 (
    .a 12 6 <| .nil _ _) ?_
  refine aw_w [(0, .agg #[.int .i64 2, .int .i64 0]), (1, .agg #[.int .i64 2, .int .i64 2]), (2, .agg #[.int .i64 1, .int .i64 1]), (3, .pointer (some ⟨1, 0, none⟩)), (4, .pointer (some ⟨2, 0, none⟩)), (5, .pointer (some ⟨3, 0, none⟩)), (6, .int .i64 2), (7, .pointer (some ⟨4, 0, none⟩)), (8, .pointer (some ⟨5, 0, none⟩)), (9, .agg #[.int .i64 2, .int .i64 0]), (10, .agg #[.int .i64 2, .int .i64 2]), (11, .agg #[.int .i64 0, .int .i64 2]), (12, .agg #[.int .i64 2, .int .i64 0]), (13, .agg #[.int .i64 1, .int .i64 1]), (14, .agg #[.int .i64 (-1), .int .i64 1])] [(1, ⟨[.int .i64 2, .int .i64 0], 28, true, 2⟩), (2, ⟨[.int .i64 2, .int .i64 2], 28, true, 2⟩), (3, ⟨[.int .i64 1, .int .i64 1], 28, true, 2⟩), (4, ⟨[.int .i64 0, .int .i64 2], 28, true, 2⟩), (5, ⟨[.int .i64 (-1), .int .i64 1], 28, true, 2⟩)] ?_
  refine aw_rt ?_
  exact en_ret [.int .i64 2] (by kernel_rfl)

theorem au_terrkeep1_104  :
    AC Try.prog 57 0 ([.agg #[.int .i64 2, .int .i64 0], .agg #[.int .i64 2, .int .i64 2], .agg #[.int .i64 1, .int .i64 1]]) [] (.int .i64 1) [] := by
  refine ac_in Try.func57 (fun w0 W pin => ?_)
  refine aw_p 3 (
    .a 4 1 <| .nil _ _) ?_
  refine aw_p 7 (
    .a 3 4 <| .p (does_c (au_terrkeep1_103)) <| .p (does_c (au_terrkeep1_81)) <| .a 1 4 <| .nil _ _) ?_
  refine aw_rt ?_
  exact en_ret [.int .i64 1] (by kernel_rfl)

theorem au_terrkeep1_105  :
    AC Try.prog 56 0 ([.agg #[.int .i64 2, .int .i64 0], .agg #[.int .i64 2, .int .i64 2], .agg #[.int .i64 1, .int .i64 1]]) [] (.bool false) [] := by
  refine ac_in Try.func56 (fun w0 W pin => ?_)
  refine aw_p 3 (
    .a 4 1 <| .nil _ _) ?_
  refine aw_p 7 (
    .a 3 4 <| .p (does_c (au_terrkeep1_104)) <| .a 9 4 <| .nil _ _) ?_
  refine aw_rt ?_
  exact en_ret [.bool false] (by kernel_rfl)

theorem au_terrkeep1_106  :
    AC Try.prog 118 0 ([.agg #[.int .i64 2, .int .i64 2], .agg #[.int .i64 0, .int .i64 2]]) [] (.agg #[.int .i64 (-2), .int .i64 0]) [] := by
  refine ac_in Try.func118 (fun w0 W pin => ?_)
  refine aw_p 3 (
    .a 3 1 <| .nil _ _) ?_
  refine aw_d 7 (
    .a 1 4 <| .p (does_c (au_terrkeep1_92)) <| .a 1 4 <| .p (does_c (au_terrkeep1_95)) <| .a 2 4 <| .nil _ _) ?_
  refine aw_p 15 (
    .a 12 4 <| .nil _ _) ?_
  refine aw_rt ?_
  exact en_ret [.agg #[.int .i64 (-2), .int .i64 0]] (by kernel_rfl)

theorem au_terrkeep1_107  :
    AC Try.prog 118 0 ([.agg #[.int .i64 2, .int .i64 2], .agg #[.int .i64 1, .int .i64 1]]) [] (.agg #[.int .i64 (-1), .int .i64 (-1)]) [] := by
  refine ac_in Try.func118 (fun w0 W pin => ?_)
  refine aw_p 3 (
    .a 3 1 <| .nil _ _) ?_
  refine aw_d 7 (
    .a 1 4 <| .p (does_c (au_terrkeep1_92)) <| .a 1 4 <| .p (does_c (au_terrkeep1_11)) <| .a 2 4 <| .nil _ _) ?_
  refine aw_p 15 (
    .a 12 4 <| .nil _ _) ?_
  refine aw_rt ?_
  exact en_ret [.agg #[.int .i64 (-1), .int .i64 (-1)]] (by kernel_rfl)

theorem au_terrkeep1_108  :
    AC Try.prog 87 0 ([.agg #[.int .i64 2, .int .i64 2], .agg #[.int .i64 0, .int .i64 2], .agg #[.int .i64 1, .int .i64 1]]) [] (.int .i64 2) [] := by
  refine ac_in Try.func87 (fun w0 W pin => ?_)
  refine aw_p 3 (
    .a 4 1 <| .nil _ _) ?_
  refine aw_d 7 (
    .a 2 4 <| .p (does_c (au_terrkeep1_106)) <| .a 2 4 <| .p (does_c (au_terrkeep1_107)) <| .a 4 4 <| .nil _ _) ?_
  refine aw_p 15 (
    .a 12 6 <| .nil _ _) ?_
  refine aw_w [(0, .agg #[.int .i64 2, .int .i64 2]), (1, .agg #[.int .i64 0, .int .i64 2]), (2, .agg #[.int .i64 1, .int .i64 1]), (3, .pointer (some ⟨1, 0, none⟩)), (4, .pointer (some ⟨2, 0, none⟩)), (5, .pointer (some ⟨3, 0, none⟩)), (6, .int .i64 2), (7, .pointer (some ⟨4, 0, none⟩)), (8, .pointer (some ⟨5, 0, none⟩)), (9, .agg #[.int .i64 2, .int .i64 2]), (10, .agg #[.int .i64 0, .int .i64 2]), (11, .agg #[.int .i64 (-2), .int .i64 0]), (12, .agg #[.int .i64 2, .int .i64 2]), (13, .agg #[.int .i64 1, .int .i64 1]), (14, .agg #[.int .i64 (-1), .int .i64 (-1)])] [(1, ⟨[.int .i64 2, .int .i64 2], 28, true, 2⟩), (2, ⟨[.int .i64 0, .int .i64 2], 28, true, 2⟩), (3, ⟨[.int .i64 1, .int .i64 1], 28, true, 2⟩), (4, ⟨[.int .i64 (-2), .int .i64 0], 28, true, 2⟩), (5, ⟨[.int .i64 (-1), .int .i64 (-1)], 28, true, 2⟩)] ?_
  refine aw_rt ?_
  exact en_ret [.int .i64 2] (by kernel_rfl)

theorem au_terrkeep1_109  :
    AC Try.prog 57 0 ([.agg #[.int .i64 2, .int .i64 2], .agg #[.int .i64 0, .int .i64 2], .agg #[.int .i64 1, .int .i64 1]]) [] (.int .i64 1) [] := by
  refine ac_in Try.func57 (fun w0 W pin => ?_)
  refine aw_p 3 (
    .a 4 1 <| .nil _ _) ?_
  refine aw_p 7 (
    .a 3 4 <| .p (does_c (au_terrkeep1_108)) <| .p (does_c (au_terrkeep1_81)) <| .a 1 4 <| .nil _ _) ?_
  refine aw_rt ?_
  exact en_ret [.int .i64 1] (by kernel_rfl)

theorem au_terrkeep1_110  :
    AC Try.prog 56 0 ([.agg #[.int .i64 2, .int .i64 2], .agg #[.int .i64 0, .int .i64 2], .agg #[.int .i64 1, .int .i64 1]]) [] (.bool false) [] := by
  refine ac_in Try.func56 (fun w0 W pin => ?_)
  refine aw_p 3 (
    .a 4 1 <| .nil _ _) ?_
  refine aw_p 7 (
    .a 3 4 <| .p (does_c (au_terrkeep1_109)) <| .a 9 4 <| .nil _ _) ?_
  refine aw_rt ?_
  exact en_ret [.bool false] (by kernel_rfl)

theorem au_terrkeep1_111  :
    AC Try.prog 118 0 ([.agg #[.int .i64 0, .int .i64 2], .agg #[.int .i64 0, .int .i64 0]]) [] (.agg #[.int .i64 0, .int .i64 (-2)]) [] := by
  refine ac_in Try.func118 (fun w0 W pin => ?_)
  refine aw_p 3 (
    .a 3 1 <| .nil _ _) ?_
  refine aw_d 7 (
    .a 1 4 <| .p (does_c (au_terrkeep1_95)) <| .a 1 4 <| .p (does_c (au_terrkeep1_9)) <| .a 2 4 <| .nil _ _) ?_
  refine aw_p 15 (
    .a 12 4 <| .nil _ _) ?_
  refine aw_rt ?_
  exact en_ret [.agg #[.int .i64 0, .int .i64 (-2)]] (by kernel_rfl)

theorem au_terrkeep1_112  :
    AC Try.prog 118 0 ([.agg #[.int .i64 0, .int .i64 2], .agg #[.int .i64 1, .int .i64 1]]) [] (.agg #[.int .i64 1, .int .i64 (-1)]) [] := by
  refine ac_in Try.func118 (fun w0 W pin => ?_)
  refine aw_p 3 (
    .a 3 1 <| .nil _ _) ?_
  refine aw_d 7 (
    .a 1 4 <| .p (does_c (au_terrkeep1_95)) <| .a 1 4 <| .p (does_c (au_terrkeep1_11)) <| .a 2 4 <| .nil _ _) ?_
  refine aw_p 15 (
    .a 12 4 <| .nil _ _) ?_
  refine aw_rt ?_
  exact en_ret [.agg #[.int .i64 1, .int .i64 (-1)]] (by kernel_rfl)

theorem au_terrkeep1_113  :
    AC Try.prog 87 0 ([.agg #[.int .i64 0, .int .i64 2], .agg #[.int .i64 0, .int .i64 0], .agg #[.int .i64 1, .int .i64 1]]) [] (.int .i64 2) [] := by
  refine ac_in Try.func87 (fun w0 W pin => ?_)
  refine aw_p 3 (
    .a 4 1 <| .nil _ _) ?_
  refine aw_d 7 (
    .a 2 4 <| .p (does_c (au_terrkeep1_111)) <| .a 2 4 <| .p (does_c (au_terrkeep1_112)) <| .a 4 4 <| .nil _ _) ?_
  refine aw_p 15 (
    .a 12 6 <| .nil _ _) ?_
  refine aw_w [(0, .agg #[.int .i64 0, .int .i64 2]), (1, .agg #[.int .i64 0, .int .i64 0]), (2, .agg #[.int .i64 1, .int .i64 1]), (3, .pointer (some ⟨1, 0, none⟩)), (4, .pointer (some ⟨2, 0, none⟩)), (5, .pointer (some ⟨3, 0, none⟩)), (6, .int .i64 2), (7, .pointer (some ⟨4, 0, none⟩)), (8, .pointer (some ⟨5, 0, none⟩)), (9, .agg #[.int .i64 0, .int .i64 2]), (10, .agg #[.int .i64 0, .int .i64 0]), (11, .agg #[.int .i64 0, .int .i64 (-2)]), (12, .agg #[.int .i64 0, .int .i64 2]), (13, .agg #[.int .i64 1, .int .i64 1]), (14, .agg #[.int .i64 1, .int .i64 (-1)])] [(1, ⟨[.int .i64 0, .int .i64 2], 28, true, 2⟩), (2, ⟨[.int .i64 0, .int .i64 0], 28, true, 2⟩), (3, ⟨[.int .i64 1, .int .i64 1], 28, true, 2⟩), (4, ⟨[.int .i64 0, .int .i64 (-2)], 28, true, 2⟩), (5, ⟨[.int .i64 1, .int .i64 (-1)], 28, true, 2⟩)] ?_
  refine aw_rt ?_
  exact en_ret [.int .i64 2] (by kernel_rfl)

theorem au_terrkeep1_114  :
    AC Try.prog 57 0 ([.agg #[.int .i64 0, .int .i64 2], .agg #[.int .i64 0, .int .i64 0], .agg #[.int .i64 1, .int .i64 1]]) [] (.int .i64 1) [] := by
  refine ac_in Try.func57 (fun w0 W pin => ?_)
  refine aw_p 3 (
    .a 4 1 <| .nil _ _) ?_
  refine aw_p 7 (
    .a 3 4 <| .p (does_c (au_terrkeep1_113)) <| .p (does_c (au_terrkeep1_81)) <| .a 1 4 <| .nil _ _) ?_
  refine aw_rt ?_
  exact en_ret [.int .i64 1] (by kernel_rfl)

theorem au_terrkeep1_115  :
    AC Try.prog 56 0 ([.agg #[.int .i64 0, .int .i64 2], .agg #[.int .i64 0, .int .i64 0], .agg #[.int .i64 1, .int .i64 1]]) [] (.bool false) [] := by
  refine ac_in Try.func56 (fun w0 W pin => ?_)
  refine aw_p 3 (
    .a 4 1 <| .nil _ _) ?_
  refine aw_p 7 (
    .a 3 4 <| .p (does_c (au_terrkeep1_114)) <| .a 9 4 <| .nil _ _) ?_
  refine aw_rt ?_
  exact en_ret [.bool false] (by kernel_rfl)

theorem au_terrkeep1_116  :
    AC Try.prog 87 0 ([.agg #[.int .i64 0, .int .i64 0], .agg #[.int .i64 0, .int .i64 2], .agg #[.int .i64 1, .int .i64 1]]) [] (.int .i64 (-2)) [] := by
  refine ac_in Try.func87 (fun w0 W pin => ?_)
  refine aw_p 3 (
    .a 4 1 <| .nil _ _) ?_
  refine aw_d 7 (
    .a 2 4 <| .p (does_c (au_terrkeep1_96)) <| .a 2 4 <| .p (does_c (au_terrkeep1_14)) <| .a 4 4 <| .nil _ _) ?_
  refine aw_p 15 (
    .a 12 6 <| .nil _ _) ?_
  refine aw_w [(0, .agg #[.int .i64 0, .int .i64 0]), (1, .agg #[.int .i64 0, .int .i64 2]), (2, .agg #[.int .i64 1, .int .i64 1]), (3, .pointer (some ⟨1, 0, none⟩)), (4, .pointer (some ⟨2, 0, none⟩)), (5, .pointer (some ⟨3, 0, none⟩)), (6, .int .i64 (-2)), (7, .pointer (some ⟨4, 0, none⟩)), (8, .pointer (some ⟨5, 0, none⟩)), (9, .agg #[.int .i64 0, .int .i64 0]), (10, .agg #[.int .i64 0, .int .i64 2]), (11, .agg #[.int .i64 0, .int .i64 2]), (12, .agg #[.int .i64 0, .int .i64 0]), (13, .agg #[.int .i64 1, .int .i64 1]), (14, .agg #[.int .i64 1, .int .i64 1])] [(1, ⟨[.int .i64 0, .int .i64 0], 28, true, 2⟩), (2, ⟨[.int .i64 0, .int .i64 2], 28, true, 2⟩), (3, ⟨[.int .i64 1, .int .i64 1], 28, true, 2⟩), (4, ⟨[.int .i64 0, .int .i64 2], 28, true, 2⟩), (5, ⟨[.int .i64 1, .int .i64 1], 28, true, 2⟩)] ?_
  refine aw_rt ?_
  exact en_ret [.int .i64 (-2)] (by kernel_rfl)

theorem au_terrkeep1_117  :
    AC Try.prog 120 0 ([.int .i64 (-2)]) [] (.bool false) [] := by
  refine ac_in Try.func120 (fun w0 W pin => ?_)
  refine aw_p 3 (
    .a 1 1 <| .nil _ _) ?_
  refine aw_p 7 (
    .a 4 1 <| .nil _ _) ?_
  refine aw_rt ?_
  exact en_ret [.bool false] (by kernel_rfl)

theorem au_terrkeep1_118  :
    AC Try.prog 97 0 ([.int .i64 (-2), .int .i64 0]) [] (.int .i64 (-1)) [] := by
  refine ac_in Try.func97 (fun w0 W pin => ?_)
  refine aw_p 3 (
    .a 1 1 <| .nil _ _) ?_
  refine aw_p 7 (
    .a 1 1 <| .p (does_c (au_terrkeep1_117)) <| .a 1 1 <| .nil _ _) ?_
  refine aw_p 15 (
    .a 1 1 <| .p (does_c (au_terrkeep1_18)) <| .a 1 1 <| .nil _ _) ?_
  refine aw_sq 30 31 ?_
  refine aw_p 61 (
    .a 1 1 <| .nil _ _) ?_
  refine aw_fl 123 ?_
  refine aw_sk ?_
  refine then_normal ?_
  refine aw_sq 62 63 ?_
  refine aw_p 125 (
    .a 1 1 <| .nil _ _) ?_
  refine aw_fl 251 ?_
  refine aw_sk ?_
  refine then_normal ?_
  refine aw_sq 126 127 ?_
  refine aw_p 253 (
    .a 3 1 <| .nil _ _) ?_
  refine aw_tr 506 ?_
  refine aw_p 1013 (
    .a 1 1 <| .nil _ _) ?_
  refine aw_rt ?_
  refine then_ret ?_
  exact en_ret [.int .i64 (-1)] (by kernel_rfl)

theorem au_terrkeep1_119  :
    AC Try.prog 57 0 ([.agg #[.int .i64 0, .int .i64 0], .agg #[.int .i64 0, .int .i64 2], .agg #[.int .i64 1, .int .i64 1]]) [] (.int .i64 (-1)) [] := by
  refine ac_in Try.func57 (fun w0 W pin => ?_)
  refine aw_p 3 (
    .a 4 1 <| .nil _ _) ?_
  refine aw_p 7 (
    .a 3 4 <| .p (does_c (au_terrkeep1_116)) <| .p (does_c (au_terrkeep1_118)) <| .a 1 4 <| .nil _ _) ?_
  refine aw_rt ?_
  exact en_ret [.int .i64 (-1)] (by kernel_rfl)

theorem au_terrkeep1_120  :
    AC Try.prog 11 1 ([.slice (some ⟨0, 0, none⟩) 4 0, .agg #[.int .i64 1, .int .i64 1]]) [(0, ⟨[.int .i64 0, .int .i64 0, .int .i64 2, .int .i64 0, .int .i64 2, .int .i64 2, .int .i64 0, .int .i64 2], 28, true, 2⟩)] (.int .i64 1) [(0, ⟨[.int .i64 0, .int .i64 0, .int .i64 2, .int .i64 0, .int .i64 2, .int .i64 2, .int .i64 0, .int .i64 2], 28, true, 2⟩)] := by
  refine ac_in Try.func11 (fun w0 W pin => ?_)
  refine aw_p 3 (
    .a 2 1 <| .nil _ _) ?_
  refine aw_p 7 (
    .a 1 2 <| .p (does_c (au_terrkeep1_11)) <| .a 1 2 <| .nil _ _) ?_
  refine aw_p 15 (
    .a 1 2 <| .nil _ _) ?_
  refine aw_sq 30 31 ?_
  refine aw_p 61 (
    .a 3 2 <| .nil _ _) ?_
  refine aw_bl 0 123 ?_
  refine aw_lp 247 ?_
  refine al_round ?_
  refine aw_p 495 (
    .a 1 2 <| .nil _ _) ?_
  refine aw_sq 990 991 ?_
  refine aw_tr 1980 ?_
  refine aw_sk ?_
  refine then_normal ?_
  refine aw_sq 1982 1983 ?_
  refine aw_bl 1 3965 ?_
  refine aw_p 7931 (
    .a 2 2 <| .nil _ _) ?_
  refine aw_d 15863 (
    .a 4 2 <| .p (does_c (au_terrkeep1_9)) <| .a 8 2 <| .p (does_c (au_terrkeep1_77)) <| .a 4 2 <| .nil _ _) ?_
  refine aw_w [(0, .slice (some ⟨0, 0, none⟩) 4 0), (1, .agg #[.int .i64 1, .int .i64 1]), (3, .pointer (some ⟨1, 0, none⟩)), (4, .int .i64 0), (5, .int .i64 (-1)), (6, .int .i64 0), (7, .pointer (some ⟨2, 0, none⟩)), (8, .pointer (some ⟨3, 0, none⟩)), (9, .agg #[.int .i64 1, .int .i64 1]), (10, .agg #[.int .i64 1, .int .i64 1]), (11, .slice (some ⟨0, 0, none⟩) 4 0), (12, .int .i64 4), (13, .int .i64 0), (14, .bool true), (15, .int .i64 0), (16, .slice (some ⟨0, 0, none⟩) 4 0), (17, .int .i64 0), (18, .pointer (some ⟨0, 0, none⟩)), (19, .agg #[.int .i64 0, .int .i64 0]), (20, .agg #[.int .i64 0, .int .i64 0]), (21, .slice (some ⟨0, 0, none⟩) 4 0), (22, .int .i64 0), (23, .int .i64 1), (24, .slice (some ⟨0, 0, none⟩) 4 0), (25, .int .i64 4), (26, .int .i64 1), (27, .pointer (some ⟨0, 2, none⟩)), (28, .agg #[.int .i64 2, .int .i64 0]), (29, .agg #[.int .i64 2, .int .i64 0])] [(0, ⟨[.int .i64 0, .int .i64 0, .int .i64 2, .int .i64 0, .int .i64 2, .int .i64 2, .int .i64 0, .int .i64 2], 28, true, 2⟩), (1, ⟨[.int .i64 1, .int .i64 1], 28, true, 2⟩), (2, ⟨[.int .i64 0, .int .i64 0], 28, true, 2⟩), (3, ⟨[.int .i64 2, .int .i64 0], 28, true, 2⟩)] ?_
  refine aw_sq 31726 31727 ?_
  refine aw_p 63453 (
    .a 3 4 <| .p (does_c (au_terrkeep1_100)) <| .nil _ _) ?_
  refine aw_fl 126907 ?_
  refine aw_sk ?_
  refine then_normal ?_
  refine aw_sq 63454 63455 ?_
  refine aw_p 126909 (
    .a 5 4 <| .nil _ _) ?_
  refine aw_fl 253819 ?_
  refine aw_sk ?_
  refine then_normal ?_
  refine aw_p 126911 (
    .a 19 4 <| .nil _ _) ?_
  refine aw_w [(0, .slice (some ⟨0, 0, none⟩) 4 0), (1, .agg #[.int .i64 1, .int .i64 1]), (3, .pointer (some ⟨1, 0, none⟩)), (4, .int .i64 0), (5, .int .i64 (-1)), (6, .int .i64 0), (7, .pointer (some ⟨2, 0, none⟩)), (8, .pointer (some ⟨3, 0, none⟩)), (9, .agg #[.int .i64 1, .int .i64 1]), (10, .agg #[.int .i64 1, .int .i64 1]), (11, .slice (some ⟨0, 0, none⟩) 4 0), (12, .int .i64 4), (13, .int .i64 0), (14, .bool true), (15, .int .i64 0), (16, .slice (some ⟨0, 0, none⟩) 4 0), (17, .int .i64 0), (18, .pointer (some ⟨0, 0, none⟩)), (19, .agg #[.int .i64 0, .int .i64 0]), (20, .agg #[.int .i64 0, .int .i64 0]), (21, .slice (some ⟨0, 0, none⟩) 4 0), (22, .int .i64 0), (23, .int .i64 1), (24, .slice (some ⟨0, 0, none⟩) 4 0), (25, .int .i64 4), (26, .int .i64 1), (27, .pointer (some ⟨0, 2, none⟩)), (28, .agg #[.int .i64 2, .int .i64 0]), (29, .agg #[.int .i64 2, .int .i64 0]), (30, .agg #[.int .i64 0, .int .i64 0]), (31, .agg #[.int .i64 2, .int .i64 0]), (32, .agg #[.int .i64 1, .int .i64 1]), (33, .bool false), (34, .pointer (some ⟨2, 1, none⟩)), (35, .int .i64 0), (36, .pointer (some ⟨3, 1, none⟩)), (37, .int .i64 0), (38, .bool false), (41, .pointer (some ⟨2, 1, none⟩)), (42, .int .i64 0), (43, .pointer (some ⟨1, 1, none⟩)), (44, .int .i64 1), (45, .bool true), (46, .bool true), (47, .pointer (some ⟨1, 1, none⟩)), (48, .int .i64 1), (49, .pointer (some ⟨3, 1, none⟩)), (50, .int .i64 0), (51, .bool false), (52, .bool false), (53, .bool false), (59, .bool false)] [(0, ⟨[.int .i64 0, .int .i64 0, .int .i64 2, .int .i64 0, .int .i64 2, .int .i64 2, .int .i64 0, .int .i64 2], 28, true, 2⟩), (1, ⟨[.int .i64 1, .int .i64 1], 28, true, 2⟩), (2, ⟨[.int .i64 0, .int .i64 0], 28, true, 2⟩), (3, ⟨[.int .i64 2, .int .i64 0], 28, true, 2⟩)] ?_
  refine aw_fl 253823 ?_
  refine aw_sk ?_
  refine block_normal ?_
  refine then_normal ?_
  refine aw_p1 (
    .a 2 4 <| .nil _ _) ?_
  refine then_normal ?_
  refine al_round ?_
  refine aw_p 495 (
    .a 1 4 <| .nil _ _) ?_
  refine aw_sq 990 991 ?_
  refine aw_tr 1980 ?_
  refine aw_sk ?_
  refine then_normal ?_
  refine aw_sq 1982 1983 ?_
  refine aw_bl 1 3965 ?_
  refine aw_p 7931 (
    .a 2 4 <| .nil _ _) ?_
  refine aw_d 15863 (
    .a 4 4 <| .p (does_c (au_terrkeep1_77)) <| .a 8 4 <| .p (does_c (au_terrkeep1_92)) <| .a 4 4 <| .nil _ _) ?_
  refine aw_sq 31726 31727 ?_
  refine aw_p 63453 (
    .a 3 6 <| .p (does_c (au_terrkeep1_105)) <| .nil _ _) ?_
  refine aw_w [(0, .slice (some ⟨0, 0, none⟩) 4 0), (1, .agg #[.int .i64 1, .int .i64 1]), (3, .pointer (some ⟨1, 0, none⟩)), (4, .int .i64 0), (5, .int .i64 (-1)), (6, .int .i64 1), (7, .pointer (some ⟨4, 0, none⟩)), (8, .pointer (some ⟨5, 0, none⟩)), (9, .agg #[.int .i64 1, .int .i64 1]), (10, .agg #[.int .i64 1, .int .i64 1]), (11, .slice (some ⟨0, 0, none⟩) 4 0), (12, .int .i64 4), (13, .int .i64 1), (14, .bool true), (15, .int .i64 1), (16, .slice (some ⟨0, 0, none⟩) 4 0), (17, .int .i64 1), (18, .pointer (some ⟨0, 2, none⟩)), (19, .agg #[.int .i64 2, .int .i64 0]), (20, .agg #[.int .i64 2, .int .i64 0]), (21, .slice (some ⟨0, 0, none⟩) 4 0), (22, .int .i64 1), (23, .int .i64 2), (24, .slice (some ⟨0, 0, none⟩) 4 0), (25, .int .i64 4), (26, .int .i64 2), (27, .pointer (some ⟨0, 4, none⟩)), (28, .agg #[.int .i64 2, .int .i64 2]), (29, .agg #[.int .i64 2, .int .i64 2]), (30, .agg #[.int .i64 2, .int .i64 0]), (31, .agg #[.int .i64 2, .int .i64 2]), (32, .agg #[.int .i64 1, .int .i64 1]), (33, .bool false), (34, .pointer (some ⟨2, 1, none⟩)), (35, .int .i64 0), (36, .pointer (some ⟨3, 1, none⟩)), (37, .int .i64 0), (38, .bool false), (41, .pointer (some ⟨2, 1, none⟩)), (42, .int .i64 0), (43, .pointer (some ⟨1, 1, none⟩)), (44, .int .i64 1), (45, .bool true), (46, .bool true), (47, .pointer (some ⟨1, 1, none⟩)), (48, .int .i64 1), (49, .pointer (some ⟨3, 1, none⟩)), (50, .int .i64 0), (51, .bool false), (52, .bool false), (53, .bool false), (59, .bool false), (62, .int .i64 1)] [(0, ⟨[.int .i64 0, .int .i64 0, .int .i64 2, .int .i64 0, .int .i64 2, .int .i64 2, .int .i64 0, .int .i64 2], 28, true, 2⟩), (1, ⟨[.int .i64 1, .int .i64 1], 28, true, 2⟩), (2, ⟨[.int .i64 0, .int .i64 0], 28, true, 2⟩), (3, ⟨[.int .i64 2, .int .i64 0], 28, true, 2⟩), (4, ⟨[.int .i64 2, .int .i64 0], 28, true, 2⟩), (5, ⟨[.int .i64 2, .int .i64 2], 28, true, 2⟩)] ?_
  refine aw_fl 126907 ?_
  refine aw_sk ?_
  refine then_normal ?_
  refine aw_sq 63454 63455 ?_
  refine aw_p 126909 (
    .a 5 6 <| .nil _ _) ?_
  refine aw_fl 253819 ?_
  refine aw_sk ?_
  refine then_normal ?_
  refine aw_p 126911 (
    .a 16 6 <| .p (does_c (au_terrkeep1_104)) <| .a 2 6 <| .nil _ _) ?_
  refine aw_tr 253822 ?_
  refine aw_p1 (
    .a 3 6 <| .nil _ _) ?_
  refine block_normal ?_
  refine then_normal ?_
  refine aw_p1 (
    .a 2 6 <| .nil _ _) ?_
  refine then_normal ?_
  refine al_round ?_
  refine aw_p 495 (
    .a 1 6 <| .nil _ _) ?_
  refine aw_w [(0, .slice (some ⟨0, 0, none⟩) 4 0), (1, .agg #[.int .i64 1, .int .i64 1]), (3, .pointer (some ⟨1, 0, none⟩)), (4, .int .i64 0), (5, .int .i64 1), (6, .int .i64 1), (7, .pointer (some ⟨4, 0, none⟩)), (8, .pointer (some ⟨5, 0, none⟩)), (9, .agg #[.int .i64 1, .int .i64 1]), (10, .agg #[.int .i64 1, .int .i64 1]), (11, .slice (some ⟨0, 0, none⟩) 4 0), (12, .int .i64 4), (13, .int .i64 2), (14, .bool true), (15, .int .i64 1), (16, .slice (some ⟨0, 0, none⟩) 4 0), (17, .int .i64 1), (18, .pointer (some ⟨0, 2, none⟩)), (19, .agg #[.int .i64 2, .int .i64 0]), (20, .agg #[.int .i64 2, .int .i64 0]), (21, .slice (some ⟨0, 0, none⟩) 4 0), (22, .int .i64 1), (23, .int .i64 2), (24, .slice (some ⟨0, 0, none⟩) 4 0), (25, .int .i64 4), (26, .int .i64 2), (27, .pointer (some ⟨0, 4, none⟩)), (28, .agg #[.int .i64 2, .int .i64 2]), (29, .agg #[.int .i64 2, .int .i64 2]), (30, .agg #[.int .i64 2, .int .i64 0]), (31, .agg #[.int .i64 2, .int .i64 2]), (32, .agg #[.int .i64 1, .int .i64 1]), (33, .bool false), (34, .pointer (some ⟨4, 1, none⟩)), (35, .int .i64 0), (36, .pointer (some ⟨5, 1, none⟩)), (37, .int .i64 2), (38, .bool false), (41, .pointer (some ⟨4, 1, none⟩)), (42, .int .i64 0), (43, .pointer (some ⟨1, 1, none⟩)), (44, .int .i64 1), (45, .bool true), (46, .bool true), (47, .pointer (some ⟨1, 1, none⟩)), (48, .int .i64 1), (49, .pointer (some ⟨5, 1, none⟩)), (50, .int .i64 2), (51, .bool true), (52, .bool true), (53, .bool true), (54, .agg #[.int .i64 2, .int .i64 0]), (55, .agg #[.int .i64 2, .int .i64 2]), (56, .agg #[.int .i64 1, .int .i64 1]), (57, .int .i64 1), (58, .bool true), (59, .bool true), (60, .int .i64 (-1)), (61, .int .i64 1), (62, .int .i64 2)] [(0, ⟨[.int .i64 0, .int .i64 0, .int .i64 2, .int .i64 0, .int .i64 2, .int .i64 2, .int .i64 0, .int .i64 2], 28, true, 2⟩), (1, ⟨[.int .i64 1, .int .i64 1], 28, true, 2⟩), (4, ⟨[.int .i64 2, .int .i64 0], 28, true, 2⟩), (5, ⟨[.int .i64 2, .int .i64 2], 28, true, 2⟩)] ?_
  refine aw_sq 990 991 ?_
  refine aw_tr 1980 ?_
  refine aw_sk ?_
  refine then_normal ?_
  refine aw_sq 1982 1983 ?_
  refine aw_bl 1 3965 ?_
  refine aw_p 7931 (
    .a 2 6 <| .nil _ _) ?_
  refine aw_d 15863 (
    .a 4 6 <| .p (does_c (au_terrkeep1_92)) <| .a 8 6 <| .p (does_c (au_terrkeep1_95)) <| .a 4 6 <| .nil _ _) ?_
  refine aw_sq 31726 31727 ?_
  refine aw_p 63453 (
    .a 3 8 <| .p (does_c (au_terrkeep1_110)) <| .nil _ _) ?_
  refine aw_fl 126907 ?_
  refine aw_sk ?_
  refine then_normal ?_
  refine aw_sq 63454 63455 ?_
  refine aw_p 126909 (
    .a 5 8 <| .nil _ _) ?_
  refine aw_w [(0, .slice (some ⟨0, 0, none⟩) 4 0), (1, .agg #[.int .i64 1, .int .i64 1]), (3, .pointer (some ⟨1, 0, none⟩)), (4, .int .i64 0), (5, .int .i64 1), (6, .int .i64 2), (7, .pointer (some ⟨6, 0, none⟩)), (8, .pointer (some ⟨7, 0, none⟩)), (9, .agg #[.int .i64 1, .int .i64 1]), (10, .agg #[.int .i64 1, .int .i64 1]), (11, .slice (some ⟨0, 0, none⟩) 4 0), (12, .int .i64 4), (13, .int .i64 2), (14, .bool true), (15, .int .i64 2), (16, .slice (some ⟨0, 0, none⟩) 4 0), (17, .int .i64 2), (18, .pointer (some ⟨0, 4, none⟩)), (19, .agg #[.int .i64 2, .int .i64 2]), (20, .agg #[.int .i64 2, .int .i64 2]), (21, .slice (some ⟨0, 0, none⟩) 4 0), (22, .int .i64 2), (23, .int .i64 3), (24, .slice (some ⟨0, 0, none⟩) 4 0), (25, .int .i64 4), (26, .int .i64 3), (27, .pointer (some ⟨0, 6, none⟩)), (28, .agg #[.int .i64 0, .int .i64 2]), (29, .agg #[.int .i64 0, .int .i64 2]), (30, .agg #[.int .i64 2, .int .i64 2]), (31, .agg #[.int .i64 0, .int .i64 2]), (32, .agg #[.int .i64 1, .int .i64 1]), (33, .bool false), (34, .pointer (some ⟨6, 1, none⟩)), (35, .int .i64 2), (36, .pointer (some ⟨7, 1, none⟩)), (37, .int .i64 2), (38, .bool false), (41, .pointer (some ⟨4, 1, none⟩)), (42, .int .i64 0), (43, .pointer (some ⟨1, 1, none⟩)), (44, .int .i64 1), (45, .bool true), (46, .bool true), (47, .pointer (some ⟨1, 1, none⟩)), (48, .int .i64 1), (49, .pointer (some ⟨5, 1, none⟩)), (50, .int .i64 2), (51, .bool true), (52, .bool true), (53, .bool true), (54, .agg #[.int .i64 2, .int .i64 0]), (55, .agg #[.int .i64 2, .int .i64 2]), (56, .agg #[.int .i64 1, .int .i64 1]), (57, .int .i64 1), (58, .bool true), (59, .bool true), (60, .int .i64 (-1)), (61, .int .i64 1), (62, .int .i64 2)] [(0, ⟨[.int .i64 0, .int .i64 0, .int .i64 2, .int .i64 0, .int .i64 2, .int .i64 2, .int .i64 0, .int .i64 2], 28, true, 2⟩), (1, ⟨[.int .i64 1, .int .i64 1], 28, true, 2⟩), (4, ⟨[.int .i64 2, .int .i64 0], 28, true, 2⟩), (5, ⟨[.int .i64 2, .int .i64 2], 28, true, 2⟩), (6, ⟨[.int .i64 2, .int .i64 2], 28, true, 2⟩), (7, ⟨[.int .i64 0, .int .i64 2], 28, true, 2⟩)] ?_
  refine aw_fl 253819 ?_
  refine aw_sk ?_
  refine then_normal ?_
  refine aw_p 126911 (
    .a 19 8 <| .nil _ _) ?_
  refine aw_fl 253823 ?_
  refine aw_sk ?_
  refine block_normal ?_
  refine then_normal ?_
  refine aw_p1 (
    .a 2 8 <| .nil _ _) ?_
  refine then_normal ?_
  refine al_round ?_
  refine aw_p 495 (
    .a 1 8 <| .nil _ _) ?_
  refine aw_sq 990 991 ?_
  refine aw_tr 1980 ?_
  refine aw_sk ?_
  refine then_normal ?_
  refine aw_sq 1982 1983 ?_
  refine aw_bl 1 3965 ?_
  refine aw_p 7931 (
    .a 2 8 <| .nil _ _) ?_
  refine aw_d 15863 (
    .a 4 8 <| .p (does_c (au_terrkeep1_95)) <| .a 8 8 <| .p (does_c (au_terrkeep1_9)) <| .a 4 8 <| .nil _ _) ?_
  refine aw_w [(0, .slice (some ⟨0, 0, none⟩) 4 0), (1, .agg #[.int .i64 1, .int .i64 1]), (3, .pointer (some ⟨1, 0, none⟩)), (4, .int .i64 0), (5, .int .i64 1), (6, .int .i64 3), (7, .pointer (some ⟨8, 0, none⟩)), (8, .pointer (some ⟨9, 0, none⟩)), (9, .agg #[.int .i64 1, .int .i64 1]), (10, .agg #[.int .i64 1, .int .i64 1]), (11, .slice (some ⟨0, 0, none⟩) 4 0), (12, .int .i64 4), (13, .int .i64 3), (14, .bool true), (15, .int .i64 3), (16, .slice (some ⟨0, 0, none⟩) 4 0), (17, .int .i64 3), (18, .pointer (some ⟨0, 6, none⟩)), (19, .agg #[.int .i64 0, .int .i64 2]), (20, .agg #[.int .i64 0, .int .i64 2]), (21, .slice (some ⟨0, 0, none⟩) 4 0), (22, .int .i64 3), (23, .int .i64 4), (24, .slice (some ⟨0, 0, none⟩) 4 0), (25, .int .i64 4), (26, .int .i64 0), (27, .pointer (some ⟨0, 0, none⟩)), (28, .agg #[.int .i64 0, .int .i64 0]), (29, .agg #[.int .i64 0, .int .i64 0]), (30, .agg #[.int .i64 2, .int .i64 2]), (31, .agg #[.int .i64 0, .int .i64 2]), (32, .agg #[.int .i64 1, .int .i64 1]), (33, .bool false), (34, .pointer (some ⟨6, 1, none⟩)), (35, .int .i64 2), (36, .pointer (some ⟨7, 1, none⟩)), (37, .int .i64 2), (38, .bool false), (41, .pointer (some ⟨6, 1, none⟩)), (42, .int .i64 2), (43, .pointer (some ⟨1, 1, none⟩)), (44, .int .i64 1), (45, .bool false), (46, .bool false), (52, .bool false), (53, .bool false), (59, .bool false), (60, .int .i64 (-1)), (61, .int .i64 1), (62, .int .i64 3)] [(0, ⟨[.int .i64 0, .int .i64 0, .int .i64 2, .int .i64 0, .int .i64 2, .int .i64 2, .int .i64 0, .int .i64 2], 28, true, 2⟩), (1, ⟨[.int .i64 1, .int .i64 1], 28, true, 2⟩), (6, ⟨[.int .i64 2, .int .i64 2], 28, true, 2⟩), (7, ⟨[.int .i64 0, .int .i64 2], 28, true, 2⟩), (8, ⟨[.int .i64 0, .int .i64 2], 28, true, 2⟩), (9, ⟨[.int .i64 0, .int .i64 0], 28, true, 2⟩)] ?_
  refine aw_sq 31726 31727 ?_
  refine aw_p 63453 (
    .a 3 10 <| .p (does_c (au_terrkeep1_115)) <| .nil _ _) ?_
  refine aw_fl 126907 ?_
  refine aw_sk ?_
  refine then_normal ?_
  refine aw_sq 63454 63455 ?_
  refine aw_p 126909 (
    .a 5 10 <| .nil _ _) ?_
  refine aw_tr 253818 ?_
  refine aw_p1 (
    .a 4 10 <| .nil _ _) ?_
  refine then_normal ?_
  refine aw_p 126911 (
    .a 16 10 <| .p (does_c (au_terrkeep1_119)) <| .a 2 10 <| .nil _ _) ?_
  refine aw_w [(0, .slice (some ⟨0, 0, none⟩) 4 0), (1, .agg #[.int .i64 1, .int .i64 1]), (3, .pointer (some ⟨1, 0, none⟩)), (4, .int .i64 0), (5, .int .i64 1), (6, .int .i64 3), (7, .pointer (some ⟨8, 0, none⟩)), (8, .pointer (some ⟨9, 0, none⟩)), (9, .agg #[.int .i64 1, .int .i64 1]), (10, .agg #[.int .i64 1, .int .i64 1]), (11, .slice (some ⟨0, 0, none⟩) 4 0), (12, .int .i64 4), (13, .int .i64 3), (14, .bool true), (15, .int .i64 3), (16, .slice (some ⟨0, 0, none⟩) 4 0), (17, .int .i64 3), (18, .pointer (some ⟨0, 6, none⟩)), (19, .agg #[.int .i64 0, .int .i64 2]), (20, .agg #[.int .i64 0, .int .i64 2]), (21, .slice (some ⟨0, 0, none⟩) 4 0), (22, .int .i64 3), (23, .int .i64 4), (24, .slice (some ⟨0, 0, none⟩) 4 0), (25, .int .i64 4), (26, .int .i64 0), (27, .pointer (some ⟨0, 0, none⟩)), (28, .agg #[.int .i64 0, .int .i64 0]), (29, .agg #[.int .i64 0, .int .i64 0]), (30, .agg #[.int .i64 0, .int .i64 2]), (31, .agg #[.int .i64 0, .int .i64 0]), (32, .agg #[.int .i64 1, .int .i64 1]), (33, .bool false), (34, .pointer (some ⟨8, 1, none⟩)), (35, .int .i64 2), (36, .pointer (some ⟨9, 1, none⟩)), (37, .int .i64 0), (38, .bool true), (39, .agg #[.int .i64 0, .int .i64 0]), (40, .agg #[.int .i64 0, .int .i64 2]), (41, .pointer (some ⟨8, 1, none⟩)), (42, .int .i64 0), (43, .pointer (some ⟨1, 1, none⟩)), (44, .int .i64 1), (45, .bool true), (46, .bool true), (47, .pointer (some ⟨1, 1, none⟩)), (48, .int .i64 1), (49, .pointer (some ⟨9, 1, none⟩)), (50, .int .i64 2), (51, .bool true), (52, .bool true), (53, .bool true), (54, .agg #[.int .i64 0, .int .i64 0]), (55, .agg #[.int .i64 0, .int .i64 2]), (56, .agg #[.int .i64 1, .int .i64 1]), (57, .int .i64 (-1)), (58, .bool false), (59, .bool false), (60, .int .i64 (-1)), (61, .int .i64 1), (62, .int .i64 3)] [(0, ⟨[.int .i64 0, .int .i64 0, .int .i64 2, .int .i64 0, .int .i64 2, .int .i64 2, .int .i64 0, .int .i64 2], 28, true, 2⟩), (1, ⟨[.int .i64 1, .int .i64 1], 28, true, 2⟩), (8, ⟨[.int .i64 0, .int .i64 0], 28, true, 2⟩), (9, ⟨[.int .i64 0, .int .i64 2], 28, true, 2⟩)] ?_
  refine aw_fl 253823 ?_
  refine aw_sk ?_
  refine block_normal ?_
  refine then_normal ?_
  refine aw_p1 (
    .a 2 10 <| .nil _ _) ?_
  refine then_normal ?_
  refine al_round ?_
  refine aw_p 495 (
    .a 1 10 <| .nil _ _) ?_
  refine aw_sq 990 991 ?_
  refine aw_fl 1981 ?_
  refine aw_ex 0 ?_
  refine then_exit ?_
  refine then_exit ?_
  refine block_exit ?_
  refine then_normal ?_
  refine aw_p 63 (
    .a 2 10 <| .nil _ _) ?_
  refine aw_rt ?_
  exact en_ret [.int .i64 1] (by kernel_rfl)

theorem terrkeep1_ringBegun_ok  :
    AC Try.prog 50 0 ([]) [] (.bool true) [] := by
  refine ac_in Try.func50 (fun w0 W pin => ?_)
  refine aw_p 3 (
    .a 1 1 <| .nil _ _) ?_
  refine aw_p 7 (
    .p (does_c (au_terrkeep1_1)) <| .p (does_c (au_terrkeep1_2)) <| .p (does_c (au_terrkeep1_3)) <| .p (does_c (au_terrkeep1_4)) <| .a 2 1 <| .nil _ _) ?_
  refine aw_p 15 (
    .p (does_c (au_terrkeep1_91)) <| .a 2 2 <| .p (does_k [1] (au_terrkeep1_98)) <| .a 3 2 <| .p (does_c (au_terrkeep1_99)) <| .a 4 2 <| .p (does_c (au_terrkeep1_5)) <| .p (does_k [1] (au_terrkeep1_120)) <| .a 3 2 <| .nil _ _) ?_
  refine aw_rt ?_
  exact en_ret [.bool true] (by kernel_rfl)


end Go.Proofs.Ytndkhgfecnbmnaa.Am
