/-
  What is asked ahead of the laws through the layers: closed walks.
-/
import Derived.Test.YtcokagabchjilaaGreatProg
import Derived.Test.YtcokagabchjilaaGreatAm16
import Derived.Test.YtcokagabchjilaaGreatAm19
namespace Go.Proofs.YtcokagabchjilaaGreat.Am
open Go Go.Proofs
set_option maxRecDepth 100000
set_option maxHeartbeats 4000000
set_option linter.unusedVariables false
set_option linter.unusedSimpArgs false

theorem au_1  :
    AC Tryz.prog 12 0 ([.int .i64 0, .int .i64 0]) [] (.agg #[.int .i64 0, .int .i64 0]) [] := by
  refine ac_in Tryz.func12 (fun w0 W pin => ?_)
  refine aw_p 3 (
    .a 1 1 <| .nil _ _) ?_
  refine aw_p 7 (
    .a 4 2 <| .nil _ _) ?_
  refine aw_rt ?_
  exact en_ret [.agg #[.int .i64 0, .int .i64 0]] (by kernel_rfl)

theorem au_2  :
    AC Tryz.prog 12 0 ([.int .i64 2, .int .i64 0]) [] (.agg #[.int .i64 2, .int .i64 0]) [] := by
  refine ac_in Tryz.func12 (fun w0 W pin => ?_)
  refine aw_p 3 (
    .a 1 1 <| .nil _ _) ?_
  refine aw_p 7 (
    .a 4 2 <| .nil _ _) ?_
  refine aw_rt ?_
  exact en_ret [.agg #[.int .i64 2, .int .i64 0]] (by kernel_rfl)

theorem au_3  :
    AC Tryz.prog 12 0 ([.int .i64 2, .int .i64 2]) [] (.agg #[.int .i64 2, .int .i64 2]) [] := by
  refine ac_in Tryz.func12 (fun w0 W pin => ?_)
  refine aw_p 3 (
    .a 1 1 <| .nil _ _) ?_
  refine aw_p 7 (
    .a 4 2 <| .nil _ _) ?_
  refine aw_rt ?_
  exact en_ret [.agg #[.int .i64 2, .int .i64 2]] (by kernel_rfl)

theorem au_4  :
    AC Tryz.prog 12 0 ([.int .i64 0, .int .i64 2]) [] (.agg #[.int .i64 0, .int .i64 2]) [] := by
  refine ac_in Tryz.func12 (fun w0 W pin => ?_)
  refine aw_p 3 (
    .a 1 1 <| .nil _ _) ?_
  refine aw_p 7 (
    .a 4 2 <| .nil _ _) ?_
  refine aw_rt ?_
  exact en_ret [.agg #[.int .i64 0, .int .i64 2]] (by kernel_rfl)

theorem au_5  :
    AC Tryz.prog 12 0 ([.int .i64 1, .int .i64 1]) [] (.agg #[.int .i64 1, .int .i64 1]) [] := by
  refine ac_in Tryz.func12 (fun w0 W pin => ?_)
  refine aw_p 3 (
    .a 1 1 <| .nil _ _) ?_
  refine aw_p 7 (
    .a 4 2 <| .nil _ _) ?_
  refine aw_rt ?_
  exact en_ret [.agg #[.int .i64 1, .int .i64 1]] (by kernel_rfl)

theorem au_6  :
    AC Tryz.prog 12 0 ([.int .i64 0, .int .i64 1]) [] (.agg #[.int .i64 0, .int .i64 1]) [] := by
  refine ac_in Tryz.func12 (fun w0 W pin => ?_)
  refine aw_p 3 (
    .a 1 1 <| .nil _ _) ?_
  refine aw_p 7 (
    .a 4 2 <| .nil _ _) ?_
  refine aw_rt ?_
  exact en_ret [.agg #[.int .i64 0, .int .i64 1]] (by kernel_rfl)

theorem au_7  :
    AC Tryz.prog 12 0 ([.int .i64 1, .int .i64 0]) [] (.agg #[.int .i64 1, .int .i64 0]) [] := by
  refine ac_in Tryz.func12 (fun w0 W pin => ?_)
  refine aw_p 3 (
    .a 1 1 <| .nil _ _) ?_
  refine aw_p 7 (
    .a 4 2 <| .nil _ _) ?_
  refine aw_rt ?_
  exact en_ret [.agg #[.int .i64 1, .int .i64 0]] (by kernel_rfl)

theorem au_8  :
    AC Tryz.prog 69 0 ([.int .i64 0, .int .i64 1048576]) [] (.int .i64 0) [] := by
  refine ac_in Tryz.func69 (fun w0 W pin => ?_)
  refine aw_p 3 (
    .a 1 1 <| .nil _ _) ?_
  refine aw_p 7 (
    .a 7 1 <| .nil _ _) ?_
  refine aw_rt ?_
  exact en_ret [.int .i64 0] (by kernel_rfl)

theorem au_9  :
    AC Tryz.prog 38 0 ([.agg #[.int .i64 0, .int .i64 0]]) [] (.agg #[.int .i64 0, .int .i64 0]) [] := by
  refine ac_in Tryz.func38 (fun w0 W pin => ?_)
  refine aw_p 3 (
    .a 2 1 <| .nil _ _) ?_
  refine aw_d 7 (
    .a 2 3 <| .p (does_c (au_8)) <| .a 2 3 <| .p (does_c (au_8)) <| .a 2 3 <| .nil _ _) ?_
  refine aw_rt ?_
  exact en_ret [.agg #[.int .i64 0, .int .i64 0]] (by kernel_rfl)

theorem au_10  :
    AC Tryz.prog 69 0 ([.int .i64 1, .int .i64 1048576]) [] (.int .i64 1) [] := by
  refine ac_in Tryz.func69 (fun w0 W pin => ?_)
  refine aw_p 3 (
    .a 1 1 <| .nil _ _) ?_
  refine aw_p 7 (
    .a 7 1 <| .nil _ _) ?_
  refine aw_rt ?_
  exact en_ret [.int .i64 1] (by kernel_rfl)

theorem au_11  :
    AC Tryz.prog 38 0 ([.agg #[.int .i64 1, .int .i64 1]]) [] (.agg #[.int .i64 1, .int .i64 1]) [] := by
  refine ac_in Tryz.func38 (fun w0 W pin => ?_)
  refine aw_p 3 (
    .a 2 1 <| .nil _ _) ?_
  refine aw_d 7 (
    .a 2 3 <| .p (does_c (au_10)) <| .a 2 3 <| .p (does_c (au_10)) <| .a 2 3 <| .nil _ _) ?_
  refine aw_rt ?_
  exact en_ret [.agg #[.int .i64 1, .int .i64 1]] (by kernel_rfl)

theorem au_12  :
    AC Tryz.prog 38 0 ([.agg #[.int .i64 0, .int .i64 1]]) [] (.agg #[.int .i64 0, .int .i64 1]) [] := by
  refine ac_in Tryz.func38 (fun w0 W pin => ?_)
  refine aw_p 3 (
    .a 2 1 <| .nil _ _) ?_
  refine aw_d 7 (
    .a 2 3 <| .p (does_c (au_8)) <| .a 2 3 <| .p (does_c (au_10)) <| .a 2 3 <| .nil _ _) ?_
  refine aw_rt ?_
  exact en_ret [.agg #[.int .i64 0, .int .i64 1]] (by kernel_rfl)

theorem au_13  :
    AC Tryz.prog 38 0 ([.agg #[.int .i64 1, .int .i64 0]]) [] (.agg #[.int .i64 1, .int .i64 0]) [] := by
  refine ac_in Tryz.func38 (fun w0 W pin => ?_)
  refine aw_p 3 (
    .a 2 1 <| .nil _ _) ?_
  refine aw_d 7 (
    .a 2 3 <| .p (does_c (au_10)) <| .a 2 3 <| .p (does_c (au_8)) <| .a 2 3 <| .nil _ _) ?_
  refine aw_rt ?_
  exact en_ret [.agg #[.int .i64 1, .int .i64 0]] (by kernel_rfl)

theorem au_14  :
    AC Tryz.prog 71 0 ([.agg #[.int .i64 0, .int .i64 0], .agg #[.int .i64 1, .int .i64 1]]) [] (.agg #[.int .i64 1, .int .i64 1]) [] := by
  refine ac_in Tryz.func71 (fun w0 W pin => ?_)
  refine aw_p 3 (
    .a 3 1 <| .nil _ _) ?_
  refine aw_d 7 (
    .a 1 4 <| .p (does_c (au_9)) <| .a 1 4 <| .p (does_c (au_11)) <| .a 2 4 <| .nil _ _) ?_
  refine aw_p 15 (
    .a 12 4 <| .nil _ _) ?_
  refine aw_rt ?_
  exact en_ret [.agg #[.int .i64 1, .int .i64 1]] (by kernel_rfl)

theorem au_15  :
    AC Tryz.prog 71 0 ([.agg #[.int .i64 0, .int .i64 0], .agg #[.int .i64 0, .int .i64 1]]) [] (.agg #[.int .i64 0, .int .i64 1]) [] := by
  refine ac_in Tryz.func71 (fun w0 W pin => ?_)
  refine aw_p 3 (
    .a 3 1 <| .nil _ _) ?_
  refine aw_d 7 (
    .a 1 4 <| .p (does_c (au_9)) <| .a 1 4 <| .p (does_c (au_12)) <| .a 2 4 <| .nil _ _) ?_
  refine aw_p 15 (
    .a 12 4 <| .nil _ _) ?_
  refine aw_rt ?_
  exact en_ret [.agg #[.int .i64 0, .int .i64 1]] (by kernel_rfl)

theorem au_16  :
    AC Tryz.prog 42 0 ([.agg #[.int .i64 0, .int .i64 0], .agg #[.int .i64 1, .int .i64 1], .agg #[.int .i64 0, .int .i64 1]]) [] (.int .i64 1) [] := by
  refine ac_in Tryz.func42 (fun w0 W pin => ?_)
  refine aw_p 3 (
    .a 4 1 <| .nil _ _) ?_
  refine aw_d 7 (
    .a 2 4 <| .p (does_c (au_14)) <| .a 2 4 <| .p (does_c (au_15)) <| .a 4 4 <| .nil _ _) ?_
  refine aw_p 15 (
    .a 12 6 <| .nil _ _) ?_
  refine aw_w [(0, .agg #[.int .i64 0, .int .i64 0]), (1, .agg #[.int .i64 1, .int .i64 1]), (2, .agg #[.int .i64 0, .int .i64 1]), (3, .pointer (some ⟨1, 0, none⟩)), (4, .pointer (some ⟨2, 0, none⟩)), (5, .pointer (some ⟨3, 0, none⟩)), (6, .int .i64 1), (7, .pointer (some ⟨4, 0, none⟩)), (8, .pointer (some ⟨5, 0, none⟩)), (9, .agg #[.int .i64 0, .int .i64 0]), (10, .agg #[.int .i64 1, .int .i64 1]), (11, .agg #[.int .i64 1, .int .i64 1]), (12, .agg #[.int .i64 0, .int .i64 0]), (13, .agg #[.int .i64 0, .int .i64 1]), (14, .agg #[.int .i64 0, .int .i64 1])] [(1, ⟨[.int .i64 0, .int .i64 0], 27, true, 2⟩), (2, ⟨[.int .i64 1, .int .i64 1], 27, true, 2⟩), (3, ⟨[.int .i64 0, .int .i64 1], 27, true, 2⟩), (4, ⟨[.int .i64 1, .int .i64 1], 27, true, 2⟩), (5, ⟨[.int .i64 0, .int .i64 1], 27, true, 2⟩)] ?_
  refine aw_rt ?_
  exact en_ret [.int .i64 1] (by kernel_rfl)

theorem au_17  :
    AC Tryz.prog 88 0 ([.int .i64 1]) [] (.bool false) [] := by
  refine ac_in Tryz.func88 (fun w0 W pin => ?_)
  refine aw_p 3 (
    .a 1 1 <| .nil _ _) ?_
  refine aw_p 7 (
    .a 4 1 <| .nil _ _) ?_
  refine aw_rt ?_
  exact en_ret [.bool false] (by kernel_rfl)

theorem au_18  :
    AC Tryz.prog 88 0 ([.int .i64 0]) [] (.bool false) [] := by
  refine ac_in Tryz.func88 (fun w0 W pin => ?_)
  refine aw_p 3 (
    .a 1 1 <| .nil _ _) ?_
  refine aw_p 7 (
    .a 4 1 <| .nil _ _) ?_
  refine aw_rt ?_
  exact en_ret [.bool false] (by kernel_rfl)

theorem au_19  :
    AC Tryz.prog 75 0 ([.int .i64 1, .int .i64 0]) [] (.int .i64 1) [] := by
  refine ac_in Tryz.func75 (fun w0 W pin => ?_)
  refine aw_p 3 (
    .a 1 1 <| .nil _ _) ?_
  refine aw_p 7 (
    .a 1 1 <| .p (does_c (au_17)) <| .a 1 1 <| .nil _ _) ?_
  refine aw_p 15 (
    .a 1 1 <| .p (does_c (au_18)) <| .a 1 1 <| .nil _ _) ?_
  refine aw_sq 30 31 ?_
  refine aw_p 61 (
    .a 1 1 <| .nil _ _) ?_
  refine aw_fl 123 ?_
  refine aw_sk ?_
  refine then_normal ?_
  refine aw_sq 62 63 ?_
  refine aw_p 125 (
    .a 1 1 <| .nil _ _) ?_
  refine aw_fl 251 ?_
  refine aw_sk ?_
  refine then_normal ?_
  refine aw_sq 126 127 ?_
  refine aw_p 253 (
    .a 3 1 <| .nil _ _) ?_
  refine aw_fl 507 ?_
  refine aw_sk ?_
  refine then_normal ?_
  refine aw_sq 254 255 ?_
  refine aw_p 509 (
    .a 3 1 <| .nil _ _) ?_
  refine aw_tr 1018 ?_
  refine aw_p 2037 (
    .a 1 1 <| .nil _ _) ?_
  refine aw_rt ?_
  refine then_ret ?_
  exact en_ret [.int .i64 1] (by kernel_rfl)

theorem au_20  :
    AC Tryz.prog 45 0 ([.agg #[.int .i64 0, .int .i64 0], .agg #[.int .i64 1, .int .i64 1], .agg #[.int .i64 0, .int .i64 1]]) [] (.int .i64 1) [] := by
  refine ac_in Tryz.func45 (fun w0 W pin => ?_)
  refine aw_p 3 (
    .a 4 1 <| .nil _ _) ?_
  refine aw_p 7 (
    .a 3 4 <| .p (does_c (au_16)) <| .p (does_c (au_19)) <| .a 1 4 <| .nil _ _) ?_
  refine aw_rt ?_
  exact en_ret [.int .i64 1] (by kernel_rfl)

theorem au_21  :
    AC Tryz.prog 71 0 ([.agg #[.int .i64 0, .int .i64 0], .agg #[.int .i64 1, .int .i64 0]]) [] (.agg #[.int .i64 1, .int .i64 0]) [] := by
  refine ac_in Tryz.func71 (fun w0 W pin => ?_)
  refine aw_p 3 (
    .a 3 1 <| .nil _ _) ?_
  refine aw_d 7 (
    .a 1 4 <| .p (does_c (au_9)) <| .a 1 4 <| .p (does_c (au_13)) <| .a 2 4 <| .nil _ _) ?_
  refine aw_p 15 (
    .a 12 4 <| .nil _ _) ?_
  refine aw_rt ?_
  exact en_ret [.agg #[.int .i64 1, .int .i64 0]] (by kernel_rfl)

theorem au_22  :
    AC Tryz.prog 42 0 ([.agg #[.int .i64 0, .int .i64 0], .agg #[.int .i64 1, .int .i64 1], .agg #[.int .i64 1, .int .i64 0]]) [] (.int .i64 (-1)) [] := by
  refine ac_in Tryz.func42 (fun w0 W pin => ?_)
  refine aw_p 3 (
    .a 4 1 <| .nil _ _) ?_
  refine aw_d 7 (
    .a 2 4 <| .p (does_c (au_14)) <| .a 2 4 <| .p (does_c (au_21)) <| .a 4 4 <| .nil _ _) ?_
  refine aw_p 15 (
    .a 12 6 <| .nil _ _) ?_
  refine aw_w [(0, .agg #[.int .i64 0, .int .i64 0]), (1, .agg #[.int .i64 1, .int .i64 1]), (2, .agg #[.int .i64 1, .int .i64 0]), (3, .pointer (some ⟨1, 0, none⟩)), (4, .pointer (some ⟨2, 0, none⟩)), (5, .pointer (some ⟨3, 0, none⟩)), (6, .int .i64 (-1)), (7, .pointer (some ⟨4, 0, none⟩)), (8, .pointer (some ⟨5, 0, none⟩)), (9, .agg #[.int .i64 0, .int .i64 0]), (10, .agg #[.int .i64 1, .int .i64 1]), (11, .agg #[.int .i64 1, .int .i64 1]), (12, .agg #[.int .i64 0, .int .i64 0]), (13, .agg #[.int .i64 1, .int .i64 0]), (14, .agg #[.int .i64 1, .int .i64 0])] [(1, ⟨[.int .i64 0, .int .i64 0], 27, true, 2⟩), (2, ⟨[.int .i64 1, .int .i64 1], 27, true, 2⟩), (3, ⟨[.int .i64 1, .int .i64 0], 27, true, 2⟩), (4, ⟨[.int .i64 1, .int .i64 1], 27, true, 2⟩), (5, ⟨[.int .i64 1, .int .i64 0], 27, true, 2⟩)] ?_
  refine aw_rt ?_
  exact en_ret [.int .i64 (-1)] (by kernel_rfl)

theorem au_23  :
    AC Tryz.prog 88 0 ([.int .i64 (-1)]) [] (.bool false) [] := by
  refine ac_in Tryz.func88 (fun w0 W pin => ?_)
  refine aw_p 3 (
    .a 1 1 <| .nil _ _) ?_
  refine aw_p 7 (
    .a 4 1 <| .nil _ _) ?_
  refine aw_rt ?_
  exact en_ret [.bool false] (by kernel_rfl)

theorem au_24  :
    AC Tryz.prog 75 0 ([.int .i64 (-1), .int .i64 0]) [] (.int .i64 (-1)) [] := by
  refine ac_in Tryz.func75 (fun w0 W pin => ?_)
  refine aw_p 3 (
    .a 1 1 <| .nil _ _) ?_
  refine aw_p 7 (
    .a 1 1 <| .p (does_c (au_23)) <| .a 1 1 <| .nil _ _) ?_
  refine aw_p 15 (
    .a 1 1 <| .p (does_c (au_18)) <| .a 1 1 <| .nil _ _) ?_
  refine aw_sq 30 31 ?_
  refine aw_p 61 (
    .a 1 1 <| .nil _ _) ?_
  refine aw_fl 123 ?_
  refine aw_sk ?_
  refine then_normal ?_
  refine aw_sq 62 63 ?_
  refine aw_p 125 (
    .a 1 1 <| .nil _ _) ?_
  refine aw_fl 251 ?_
  refine aw_sk ?_
  refine then_normal ?_
  refine aw_sq 126 127 ?_
  refine aw_p 253 (
    .a 3 1 <| .nil _ _) ?_
  refine aw_tr 506 ?_
  refine aw_p 1013 (
    .a 1 1 <| .nil _ _) ?_
  refine aw_rt ?_
  refine then_ret ?_
  exact en_ret [.int .i64 (-1)] (by kernel_rfl)

theorem au_25  :
    AC Tryz.prog 45 0 ([.agg #[.int .i64 0, .int .i64 0], .agg #[.int .i64 1, .int .i64 1], .agg #[.int .i64 1, .int .i64 0]]) [] (.int .i64 (-1)) [] := by
  refine ac_in Tryz.func45 (fun w0 W pin => ?_)
  refine aw_p 3 (
    .a 4 1 <| .nil _ _) ?_
  refine aw_p 7 (
    .a 3 4 <| .p (does_c (au_22)) <| .p (does_c (au_24)) <| .a 1 4 <| .nil _ _) ?_
  refine aw_rt ?_
  exact en_ret [.int .i64 (-1)] (by kernel_rfl)

theorem au_26  :
    AC Tryz.prog 71 0 ([.agg #[.int .i64 0, .int .i64 1], .agg #[.int .i64 1, .int .i64 0]]) [] (.agg #[.int .i64 1, .int .i64 (-1)]) [] := by
  refine ac_in Tryz.func71 (fun w0 W pin => ?_)
  refine aw_p 3 (
    .a 3 1 <| .nil _ _) ?_
  refine aw_d 7 (
    .a 1 4 <| .p (does_c (au_12)) <| .a 1 4 <| .p (does_c (au_13)) <| .a 2 4 <| .nil _ _) ?_
  refine aw_p 15 (
    .a 12 4 <| .nil _ _) ?_
  refine aw_rt ?_
  exact en_ret [.agg #[.int .i64 1, .int .i64 (-1)]] (by kernel_rfl)

theorem au_27  :
    AC Tryz.prog 71 0 ([.agg #[.int .i64 0, .int .i64 1], .agg #[.int .i64 0, .int .i64 0]]) [] (.agg #[.int .i64 0, .int .i64 (-1)]) [] := by
  refine ac_in Tryz.func71 (fun w0 W pin => ?_)
  refine aw_p 3 (
    .a 3 1 <| .nil _ _) ?_
  refine aw_d 7 (
    .a 1 4 <| .p (does_c (au_12)) <| .a 1 4 <| .p (does_c (au_9)) <| .a 2 4 <| .nil _ _) ?_
  refine aw_p 15 (
    .a 12 4 <| .nil _ _) ?_
  refine aw_rt ?_
  exact en_ret [.agg #[.int .i64 0, .int .i64 (-1)]] (by kernel_rfl)

theorem au_28  :
    AC Tryz.prog 42 0 ([.agg #[.int .i64 0, .int .i64 1], .agg #[.int .i64 1, .int .i64 0], .agg #[.int .i64 0, .int .i64 0]]) [] (.int .i64 (-1)) [] := by
  refine ac_in Tryz.func42 (fun w0 W pin => ?_)
  refine aw_p 3 (
    .a 4 1 <| .nil _ _) ?_
  refine aw_d 7 (
    .a 2 4 <| .p (does_c (au_26)) <| .a 2 4 <| .p (does_c (au_27)) <| .a 4 4 <| .nil _ _) ?_
  refine aw_p 15 (
    .a 12 6 <| .nil _ _) ?_
  refine aw_w [(0, .agg #[.int .i64 0, .int .i64 1]), (1, .agg #[.int .i64 1, .int .i64 0]), (2, .agg #[.int .i64 0, .int .i64 0]), (3, .pointer (some ⟨1, 0, none⟩)), (4, .pointer (some ⟨2, 0, none⟩)), (5, .pointer (some ⟨3, 0, none⟩)), (6, .int .i64 (-1)), (7, .pointer (some ⟨4, 0, none⟩)), (8, .pointer (some ⟨5, 0, none⟩)), (9, .agg #[.int .i64 0, .int .i64 1]), (10, .agg #[.int .i64 1, .int .i64 0]), (11, .agg #[.int .i64 1, .int .i64 (-1)]), (12, .agg #[.int .i64 0, .int .i64 1]), (13, .agg #[.int .i64 0, .int .i64 0]), (14, .agg #[.int .i64 0, .int .i64 (-1)])] [(1, ⟨[.int .i64 0, .int .i64 1], 27, true, 2⟩), (2, ⟨[.int .i64 1, .int .i64 0], 27, true, 2⟩), (3, ⟨[.int .i64 0, .int .i64 0], 27, true, 2⟩), (4, ⟨[.int .i64 1, .int .i64 (-1)], 27, true, 2⟩), (5, ⟨[.int .i64 0, .int .i64 (-1)], 27, true, 2⟩)] ?_
  refine aw_rt ?_
  exact en_ret [.int .i64 (-1)] (by kernel_rfl)

theorem au_29  :
    AC Tryz.prog 45 0 ([.agg #[.int .i64 0, .int .i64 1], .agg #[.int .i64 1, .int .i64 0], .agg #[.int .i64 0, .int .i64 0]]) [] (.int .i64 (-1)) [] := by
  refine ac_in Tryz.func45 (fun w0 W pin => ?_)
  refine aw_p 3 (
    .a 4 1 <| .nil _ _) ?_
  refine aw_p 7 (
    .a 3 4 <| .p (does_c (au_28)) <| .p (does_c (au_24)) <| .a 1 4 <| .nil _ _) ?_
  refine aw_rt ?_
  exact en_ret [.int .i64 (-1)] (by kernel_rfl)

theorem au_30  :
    AC Tryz.prog 71 0 ([.agg #[.int .i64 0, .int .i64 1], .agg #[.int .i64 1, .int .i64 1]]) [] (.agg #[.int .i64 1, .int .i64 0]) [] := by
  refine ac_in Tryz.func71 (fun w0 W pin => ?_)
  refine aw_p 3 (
    .a 3 1 <| .nil _ _) ?_
  refine aw_d 7 (
    .a 1 4 <| .p (does_c (au_12)) <| .a 1 4 <| .p (does_c (au_11)) <| .a 2 4 <| .nil _ _) ?_
  refine aw_p 15 (
    .a 12 4 <| .nil _ _) ?_
  refine aw_rt ?_
  exact en_ret [.agg #[.int .i64 1, .int .i64 0]] (by kernel_rfl)

theorem au_31  :
    AC Tryz.prog 42 0 ([.agg #[.int .i64 0, .int .i64 1], .agg #[.int .i64 1, .int .i64 0], .agg #[.int .i64 1, .int .i64 1]]) [] (.int .i64 1) [] := by
  refine ac_in Tryz.func42 (fun w0 W pin => ?_)
  refine aw_p 3 (
    .a 4 1 <| .nil _ _) ?_
  refine aw_d 7 (
    .a 2 4 <| .p (does_c (au_26)) <| .a 2 4 <| .p (does_c (au_30)) <| .a 4 4 <| .nil _ _) ?_
  refine aw_p 15 (
    .a 12 6 <| .nil _ _) ?_
  refine aw_w [(0, .agg #[.int .i64 0, .int .i64 1]), (1, .agg #[.int .i64 1, .int .i64 0]), (2, .agg #[.int .i64 1, .int .i64 1]), (3, .pointer (some ⟨1, 0, none⟩)), (4, .pointer (some ⟨2, 0, none⟩)), (5, .pointer (some ⟨3, 0, none⟩)), (6, .int .i64 1), (7, .pointer (some ⟨4, 0, none⟩)), (8, .pointer (some ⟨5, 0, none⟩)), (9, .agg #[.int .i64 0, .int .i64 1]), (10, .agg #[.int .i64 1, .int .i64 0]), (11, .agg #[.int .i64 1, .int .i64 (-1)]), (12, .agg #[.int .i64 0, .int .i64 1]), (13, .agg #[.int .i64 1, .int .i64 1]), (14, .agg #[.int .i64 1, .int .i64 0])] [(1, ⟨[.int .i64 0, .int .i64 1], 27, true, 2⟩), (2, ⟨[.int .i64 1, .int .i64 0], 27, true, 2⟩), (3, ⟨[.int .i64 1, .int .i64 1], 27, true, 2⟩), (4, ⟨[.int .i64 1, .int .i64 (-1)], 27, true, 2⟩), (5, ⟨[.int .i64 1, .int .i64 0], 27, true, 2⟩)] ?_
  refine aw_rt ?_
  exact en_ret [.int .i64 1] (by kernel_rfl)

theorem au_32  :
    AC Tryz.prog 45 0 ([.agg #[.int .i64 0, .int .i64 1], .agg #[.int .i64 1, .int .i64 0], .agg #[.int .i64 1, .int .i64 1]]) [] (.int .i64 1) [] := by
  refine ac_in Tryz.func45 (fun w0 W pin => ?_)
  refine aw_p 3 (
    .a 4 1 <| .nil _ _) ?_
  refine aw_p 7 (
    .a 3 4 <| .p (does_c (au_31)) <| .p (does_c (au_19)) <| .a 1 4 <| .nil _ _) ?_
  refine aw_rt ?_
  exact en_ret [.int .i64 1] (by kernel_rfl)

theorem au_33  :
    AC Tryz.prog 39 0 ([.agg #[.int .i64 0, .int .i64 0], .agg #[.int .i64 1, .int .i64 1], .agg #[.int .i64 0, .int .i64 1], .agg #[.int .i64 1, .int .i64 0]]) [] (.int .i64 1) [] := by
  refine ac_in Tryz.func39 (fun w0 W pin => ?_)
  refine aw_p 3 (
    .a 5 1 <| .nil _ _) ?_
  refine aw_d 7 (
    .a 1 5 <| .p (does_c (au_9)) <| .a 1 5 <| .p (does_c (au_11)) <| .a 1 5 <| .p (does_c (au_12)) <| .a 1 5 <| .p (does_c (au_13)) <| .a 4 5 <| .nil _ _) ?_
  refine aw_sq 14 15 ?_
  refine aw_d 29 (
    .a 3 5 <| .p (does_c (au_20)) <| .a 3 5 <| .p (does_c (au_25)) <| .a 6 5 <| .p (does_c (au_29)) <| .a 3 5 <| .p (does_c (au_32)) <| .a 3 5 <| .nil _ _) ?_
  refine aw_w [(0, .agg #[.int .i64 0, .int .i64 0]), (1, .agg #[.int .i64 1, .int .i64 1]), (2, .agg #[.int .i64 0, .int .i64 1]), (3, .agg #[.int .i64 1, .int .i64 0]), (4, .pointer (some ⟨1, 0, none⟩)), (5, .pointer (some ⟨2, 0, none⟩)), (6, .pointer (some ⟨3, 0, none⟩)), (7, .pointer (some ⟨4, 0, none⟩)), (8, .int .i64 0), (9, .agg #[.int .i64 0, .int .i64 0]), (10, .agg #[.int .i64 0, .int .i64 0]), (11, .agg #[.int .i64 1, .int .i64 1]), (12, .agg #[.int .i64 1, .int .i64 1]), (13, .agg #[.int .i64 0, .int .i64 1]), (14, .agg #[.int .i64 0, .int .i64 1]), (15, .agg #[.int .i64 1, .int .i64 0]), (16, .agg #[.int .i64 1, .int .i64 0]), (38, .bool true)] [(1, ⟨[.int .i64 0, .int .i64 0], 27, true, 2⟩), (2, ⟨[.int .i64 1, .int .i64 1], 27, true, 2⟩), (3, ⟨[.int .i64 0, .int .i64 1], 27, true, 2⟩), (4, ⟨[.int .i64 1, .int .i64 0], 27, true, 2⟩)] ?_
  refine aw_tr 58 ?_
  refine aw_p 117 (
    .a 1 5 <| .nil _ _) ?_
  refine aw_rt ?_
  refine then_ret ?_
  exact en_ret [.int .i64 1] (by kernel_rfl)

theorem au_34  :
    AC Tryz.prog 44 0 ([.agg #[.int .i64 0, .int .i64 1], .agg #[.int .i64 1, .int .i64 0], .agg #[.int .i64 0, .int .i64 0]]) [] (.bool false) [] := by
  refine ac_in Tryz.func44 (fun w0 W pin => ?_)
  refine aw_p 3 (
    .a 4 1 <| .nil _ _) ?_
  refine aw_p 7 (
    .a 3 4 <| .p (does_c (au_29)) <| .a 9 4 <| .nil _ _) ?_
  refine aw_rt ?_
  exact en_ret [.bool false] (by kernel_rfl)

theorem au_35  :
    AC Tryz.prog 70 1 ([.agg #[.int .i64 0, .int .i64 0], .agg #[.int .i64 0, .int .i64 1], .agg #[.int .i64 1, .int .i64 0], .pointer (some ⟨0, 0, none⟩)]) [(0, ⟨[.slice none 0 0], 44, true, 1⟩)] (.tuple #[]) [(0, ⟨[.slice none 0 0], 44, true, 1⟩)] := by
  refine ac_in Tryz.func70 (fun w0 W pin => ?_)
  refine aw_p 3 (
    .a 3 1 <| .nil _ _) ?_
  refine aw_sq 6 7 ?_
  refine aw_p 13 (
    .a 3 4 <| .p (does_c (au_34)) <| .a 1 4 <| .nil _ _) ?_
  refine aw_tr 26 ?_
  refine aw_rt ?_
  refine then_ret ?_
  exact en_ret [] (by kernel_rfl)

theorem au_36  :
    AC Tryz.prog 44 0 ([.agg #[.int .i64 0, .int .i64 1], .agg #[.int .i64 1, .int .i64 0], .agg #[.int .i64 1, .int .i64 1]]) [] (.bool false) [] := by
  refine ac_in Tryz.func44 (fun w0 W pin => ?_)
  refine aw_p 3 (
    .a 4 1 <| .nil _ _) ?_
  refine aw_p 7 (
    .a 3 4 <| .p (does_c (au_32)) <| .a 9 4 <| .nil _ _) ?_
  refine aw_rt ?_
  exact en_ret [.bool false] (by kernel_rfl)

theorem au_37  :
    AC Tryz.prog 70 1 ([.agg #[.int .i64 1, .int .i64 1], .agg #[.int .i64 0, .int .i64 1], .agg #[.int .i64 1, .int .i64 0], .pointer (some ⟨0, 0, none⟩)]) [(0, ⟨[.slice none 0 0], 44, true, 1⟩)] (.tuple #[]) [(0, ⟨[.slice none 0 0], 44, true, 1⟩)] := by
  refine ac_in Tryz.func70 (fun w0 W pin => ?_)
  refine aw_p 3 (
    .a 3 1 <| .nil _ _) ?_
  refine aw_sq 6 7 ?_
  refine aw_p 13 (
    .a 3 4 <| .p (does_c (au_36)) <| .a 1 4 <| .nil _ _) ?_
  refine aw_tr 26 ?_
  refine aw_rt ?_
  refine then_ret ?_
  exact en_ret [] (by kernel_rfl)

theorem au_38  :
    AC Tryz.prog 44 0 ([.agg #[.int .i64 0, .int .i64 0], .agg #[.int .i64 1, .int .i64 1], .agg #[.int .i64 0, .int .i64 1]]) [] (.bool false) [] := by
  refine ac_in Tryz.func44 (fun w0 W pin => ?_)
  refine aw_p 3 (
    .a 4 1 <| .nil _ _) ?_
  refine aw_p 7 (
    .a 3 4 <| .p (does_c (au_20)) <| .a 9 4 <| .nil _ _) ?_
  refine aw_rt ?_
  exact en_ret [.bool false] (by kernel_rfl)

theorem au_39  :
    AC Tryz.prog 70 1 ([.agg #[.int .i64 0, .int .i64 1], .agg #[.int .i64 0, .int .i64 0], .agg #[.int .i64 1, .int .i64 1], .pointer (some ⟨0, 0, none⟩)]) [(0, ⟨[.slice none 0 0], 44, true, 1⟩)] (.tuple #[]) [(0, ⟨[.slice none 0 0], 44, true, 1⟩)] := by
  refine ac_in Tryz.func70 (fun w0 W pin => ?_)
  refine aw_p 3 (
    .a 3 1 <| .nil _ _) ?_
  refine aw_sq 6 7 ?_
  refine aw_p 13 (
    .a 3 4 <| .p (does_c (au_38)) <| .a 1 4 <| .nil _ _) ?_
  refine aw_tr 26 ?_
  refine aw_rt ?_
  refine then_ret ?_
  exact en_ret [] (by kernel_rfl)

theorem au_40  :
    AC Tryz.prog 44 0 ([.agg #[.int .i64 0, .int .i64 0], .agg #[.int .i64 1, .int .i64 1], .agg #[.int .i64 1, .int .i64 0]]) [] (.bool false) [] := by
  refine ac_in Tryz.func44 (fun w0 W pin => ?_)
  refine aw_p 3 (
    .a 4 1 <| .nil _ _) ?_
  refine aw_p 7 (
    .a 3 4 <| .p (does_c (au_25)) <| .a 9 4 <| .nil _ _) ?_
  refine aw_rt ?_
  exact en_ret [.bool false] (by kernel_rfl)

theorem au_41  :
    AC Tryz.prog 70 1 ([.agg #[.int .i64 1, .int .i64 0], .agg #[.int .i64 0, .int .i64 0], .agg #[.int .i64 1, .int .i64 1], .pointer (some ⟨0, 0, none⟩)]) [(0, ⟨[.slice none 0 0], 44, true, 1⟩)] (.tuple #[]) [(0, ⟨[.slice none 0 0], 44, true, 1⟩)] := by
  refine ac_in Tryz.func70 (fun w0 W pin => ?_)
  refine aw_p 3 (
    .a 3 1 <| .nil _ _) ?_
  refine aw_sq 6 7 ?_
  refine aw_p 13 (
    .a 3 4 <| .p (does_c (au_40)) <| .a 1 4 <| .nil _ _) ?_
  refine aw_tr 26 ?_
  refine aw_rt ?_
  refine then_ret ?_
  exact en_ret [] (by kernel_rfl)

theorem au_42  :
    AC Tryz.prog 40 0 ([.agg #[.int .i64 0, .int .i64 0], .agg #[.int .i64 1, .int .i64 1], .agg #[.int .i64 0, .int .i64 1], .agg #[.int .i64 1, .int .i64 0]]) [] (.slice none 0 0) [] := by
  refine ac_in Tryz.func40 (fun w0 W pin => ?_)
  refine aw_p 3 (
    .a 5 1 <| .nil _ _) ?_
  refine aw_p 7 (
    .a 1 5 <| .nil _ _) ?_
  refine aw_p 15 (
    .a 2 6 <| .nil _ _) ?_
  refine aw_p 31 (
    .a 4 6 <| .p (does_k [5] (au_35)) <| .nil _ _) ?_
  refine aw_p 63 (
    .a 4 6 <| .p (does_k [5] (au_37)) <| .nil _ _) ?_
  refine aw_p 127 (
    .a 4 6 <| .p (does_k [5] (au_39)) <| .nil _ _) ?_
  refine aw_p 255 (
    .a 4 6 <| .p (does_k [5] (au_41)) <| .nil _ _) ?_
  refine aw_w [(0, .agg #[.int .i64 0, .int .i64 0]), (1, .agg #[.int .i64 1, .int .i64 1]), (2, .agg #[.int .i64 0, .int .i64 1]), (3, .agg #[.int .i64 1, .int .i64 0]), (4, .pointer (some ⟨1, 0, none⟩)), (5, .pointer (some ⟨2, 0, none⟩)), (6, .pointer (some ⟨3, 0, none⟩)), (7, .pointer (some ⟨4, 0, none⟩)), (8, .slice none 0 0), (9, .pointer (some ⟨5, 0, none⟩)), (10, .func (.func 70) #[] #[.pointer (some ⟨5, 0, none⟩)]), (11, .func (.func 70) #[] #[.pointer (some ⟨5, 0, none⟩)]), (12, .func (.func 70) #[] #[.pointer (some ⟨5, 0, none⟩)]), (13, .agg #[.int .i64 0, .int .i64 0]), (14, .agg #[.int .i64 0, .int .i64 1]), (15, .agg #[.int .i64 1, .int .i64 0]), (17, .func (.func 70) #[] #[.pointer (some ⟨5, 0, none⟩)]), (18, .agg #[.int .i64 1, .int .i64 1]), (19, .agg #[.int .i64 0, .int .i64 1]), (20, .agg #[.int .i64 1, .int .i64 0]), (22, .func (.func 70) #[] #[.pointer (some ⟨5, 0, none⟩)]), (23, .agg #[.int .i64 0, .int .i64 1]), (24, .agg #[.int .i64 0, .int .i64 0]), (25, .agg #[.int .i64 1, .int .i64 1])] [(1, ⟨[.int .i64 0, .int .i64 0], 27, true, 2⟩), (2, ⟨[.int .i64 1, .int .i64 1], 27, true, 2⟩), (3, ⟨[.int .i64 0, .int .i64 1], 27, true, 2⟩), (4, ⟨[.int .i64 1, .int .i64 0], 27, true, 2⟩), (5, ⟨[.slice none 0 0], 44, true, 1⟩)] ?_
  refine aw_p 511 (
    .a 2 6 <| .nil _ _) ?_
  refine aw_rt ?_
  exact en_ret [.slice none 0 0] (by kernel_rfl)

theorem au_43  :
    AC Tryz.prog 46 0 ([.int .u64 1, .int .u64 1]) [] (.tuple #[.int .u64 0, .int .u64 1]) [] := by
  refine ac_in Tryz.func46 (fun w0 W pin => ?_)
  refine aw_p 3 (
    .a 2 1 <| .nil _ _) ?_
  refine aw_p 7 (
    .a 3 1 <| .nil _ _) ?_
  refine aw_p 15 (
    .a 3 1 <| .nil _ _) ?_
  refine aw_p 31 (
    .a 3 1 <| .nil _ _) ?_
  refine aw_p 63 (
    .a 3 1 <| .nil _ _) ?_
  refine aw_p 127 (
    .a 4 1 <| .nil _ _) ?_
  refine aw_p 255 (
    .a 7 1 <| .nil _ _) ?_
  refine aw_w [(0, .int .u64 1), (1, .int .u64 1), (4, .int .u64 0), (5, .int .u64 0), (6, .int .u64 1), (7, .int .u64 0), (8, .int .u64 1), (9, .int .u64 0), (11, .int .u64 0), (14, .int .u64 1), (15, .int .u64 1), (16, .int .u64 1), (17, .int .u64 0), (18, .int .u64 1), (19, .int .u64 1), (20, .int .u64 1), (21, .int .u64 0), (22, .int .u64 1), (23, .int .u64 1), (24, .int .u64 1)] [] ?_
  refine aw_p 511 (
    .a 3 1 <| .nil _ _) ?_
  refine aw_p 1023 (
    .a 3 1 <| .nil _ _) ?_
  refine aw_p 2047 (
    .a 6 1 <| .nil _ _) ?_
  refine aw_p 4095 (
    .a 9 1 <| .nil _ _) ?_
  refine aw_p 8191 (
    .a 4 1 <| .nil _ _) ?_
  refine aw_w [(0, .int .u64 1), (1, .int .u64 1), (4, .int .u64 0), (5, .int .u64 1), (6, .int .u64 1), (7, .int .u64 0), (8, .int .u64 1), (9, .int .u64 0), (11, .int .u64 0), (12, .int .u64 0), (13, .int .u64 0), (14, .int .u64 1), (15, .int .u64 1), (16, .int .u64 1), (17, .int .u64 0), (18, .int .u64 1), (19, .int .u64 1), (20, .int .u64 1), (21, .int .u64 0), (22, .int .u64 1), (23, .int .u64 1), (24, .int .u64 1), (31, .int .u64 0), (32, .int .u64 0), (33, .int .u64 0), (34, .int .u64 0), (35, .int .u64 0), (36, .int .u64 1), (37, .int .u64 0), (38, .int .u64 0), (39, .int .u64 0), (40, .int .u64 0), (41, .int .u64 0), (42, .int .u64 0), (43, .int .u64 0), (44, .int .u64 0), (45, .int .u64 0), (46, .int .u64 0), (47, .int .u64 0)] [] ?_
  refine aw_rt ?_
  exact en_ret [.int .u64 0, .int .u64 1] (by kernel_rfl)

theorem au_44  :
    AC Tryz.prog 16 0 ([.int .i64 1, .int .i64 1]) [] (.agg #[.int .i64 0, .int .u64 1]) [] := by
  refine ac_in Tryz.func16 (fun w0 W pin => ?_)
  refine aw_p 3 (
    .a 1 1 <| .nil _ _) ?_
  refine aw_p 7 (
    .a 4 2 <| .p (does_c (au_43)) <| .a 5 2 <| .nil _ _) ?_
  refine aw_sq 14 15 ?_
  refine aw_p 29 (
    .a 2 2 <| .nil _ _) ?_
  refine aw_fl 59 ?_
  refine aw_sk ?_
  refine then_normal ?_
  refine aw_sq 30 31 ?_
  refine aw_p 61 (
    .a 2 2 <| .nil _ _) ?_
  refine aw_fl 123 ?_
  refine aw_sk ?_
  refine then_normal ?_
  refine aw_p 63 (
    .a 5 2 <| .nil _ _) ?_
  refine aw_rt ?_
  exact en_ret [.agg #[.int .i64 0, .int .u64 1]] (by kernel_rfl)

theorem au_45  :
    AC Tryz.prog 87 0 ([.int .u64 0, .int .u64 1, .int .u64 2]) [] (.tuple #[.int .u64 0, .int .u64 1]) [] := by
  refine ac_in Tryz.func87 (fun w0 W pin => ?_)
  refine aw_p 3 (
    .a 2 1 <| .nil _ _) ?_
  refine aw_sq 6 7 ?_
  refine aw_p 13 (
    .a 2 1 <| .nil _ _) ?_
  refine aw_fl 27 ?_
  refine aw_sk ?_
  refine then_normal ?_
  refine aw_sq 14 15 ?_
  refine aw_p 29 (
    .a 3 1 <| .nil _ _) ?_
  refine aw_fl 59 ?_
  refine aw_sk ?_
  refine then_normal ?_
  refine aw_sq 30 31 ?_
  refine aw_p 61 (
    .a 2 1 <| .nil _ _) ?_
  refine aw_tr 122 ?_
  refine aw_d 245 (
    .a 8 1 <| .nil _ _) ?_
  refine aw_rt ?_
  refine then_ret ?_
  exact en_ret [.int .u64 0, .int .u64 1] (by kernel_rfl)

theorem au_46  :
    AC Tryz.prog 72 0 ([.agg #[.int .i64 0, .int .u64 1], .int .i64 2]) [] (.tuple #[.agg #[.int .i64 0, .int .u64 0], .int .i64 1, .int .i64 0]) [] := by
  refine ac_in Tryz.func72 (fun w0 W pin => ?_)
  refine aw_p 3 (
    .a 4 1 <| .nil _ _) ?_
  refine aw_sq 6 7 ?_
  refine aw_p 13 (
    .a 2 3 <| .nil _ _) ?_
  refine aw_fl 27 ?_
  refine aw_sk ?_
  refine then_normal ?_
  refine aw_p 15 (
    .a 4 3 <| .nil _ _) ?_
  refine aw_sq 30 31 ?_
  refine aw_p 61 (
    .a 1 3 <| .nil _ _) ?_
  refine aw_fl 123 ?_
  refine aw_sk ?_
  refine then_normal ?_
  refine aw_d 63 (
    .a 14 3 <| .nil _ _) ?_
  refine aw_w [(0, .agg #[.int .i64 0, .int .u64 1]), (1, .int .i64 2), (2, .pointer (some ⟨1, 0, none⟩)), (4, .pointer (some ⟨2, 0, none⟩)), (5, .int .i64 0), (6, .int .i64 0), (7, .bool false), (8, .int .u64 0), (9, .int .u64 0), (11, .int .i64 2), (12, .bool false), (14, .pointer (some ⟨1, 0, none⟩)), (15, .int .i64 0), (16, .bool false), (17, .bool false)] [(1, ⟨[.int .i64 0, .int .u64 1], 53, true, 2⟩), (2, ⟨[.int .i64 0, .int .u64 0], 53, true, 2⟩)] ?_
  refine aw_p 127 (
    .a 5 3 <| .p (does_c (au_45)) <| .a 5 3 <| .nil _ _) ?_
  refine aw_sq 254 255 ?_
  refine aw_p 509 (
    .a 1 3 <| .nil _ _) ?_
  refine aw_fl 1019 ?_
  refine aw_sk ?_
  refine then_normal ?_
  refine aw_p 511 (
    .a 9 3 <| .nil _ _) ?_
  refine aw_rt ?_
  exact en_ret [.agg #[.int .i64 0, .int .u64 0], .int .i64 1, .int .i64 0] (by kernel_rfl)

theorem au_47  :
    AC Tryz.prog 17 0 ([.int .i64 0]) [] (.agg #[.int .i64 0, .int .u64 0]) [] := by
  refine ac_in Tryz.func17 (fun w0 W pin => ?_)
  refine aw_p 3 (
    .a 1 1 <| .nil _ _) ?_
  refine aw_p 7 (
    .a 6 2 <| .nil _ _) ?_
  refine aw_rt ?_
  exact en_ret [.agg #[.int .i64 0, .int .u64 0]] (by kernel_rfl)

theorem au_48  :
    AC Tryz.prog 73 0 ([.agg #[.int .i64 0, .int .u64 0]]) [] (.tuple #[.int .i64 0, .int .i64 0]) [] := by
  refine ac_in Tryz.func73 (fun w0 W pin => ?_)
  refine aw_p 3 (
    .a 3 1 <| .nil _ _) ?_
  refine aw_sq 6 7 ?_
  refine aw_d 13 (
    .a 4 2 <| .p (does_c (au_47)) <| .p (does_e false ((show (!((0 == 0) && ((0 == 0) && true))) = false from by decide))) <| .nil _ _) ?_
  refine aw_fl 27 ?_
  refine aw_sk ?_
  refine then_normal ?_
  refine aw_p 15 (
    .a 5 2 <| .nil _ _) ?_
  refine aw_rt ?_
  exact en_ret [.int .i64 0, .int .i64 0] (by kernel_rfl)

theorem au_49  :
    AC Tryz.prog 81 0 ([.int .i64 1]) [] (.int .u64 1) [] := by
  refine ac_in Tryz.func81 (fun w0 W pin => ?_)
  refine aw_p 3 (
    .a 1 1 <| .nil _ _) ?_
  refine aw_sq 6 7 ?_
  refine aw_p 13 (
    .a 2 1 <| .nil _ _) ?_
  refine aw_fl 27 ?_
  refine aw_sk ?_
  refine then_normal ?_
  refine aw_p 15 (
    .a 3 1 <| .nil _ _) ?_
  refine aw_rt ?_
  exact en_ret [.int .u64 1] (by kernel_rfl)

theorem au_50  :
    AC Tryz.prog 81 0 ([.int .i64 2]) [] (.int .u64 2) [] := by
  refine ac_in Tryz.func81 (fun w0 W pin => ?_)
  refine aw_p 3 (
    .a 1 1 <| .nil _ _) ?_
  refine aw_sq 6 7 ?_
  refine aw_p 13 (
    .a 2 1 <| .nil _ _) ?_
  refine aw_fl 27 ?_
  refine aw_sk ?_
  refine then_normal ?_
  refine aw_p 15 (
    .a 3 1 <| .nil _ _) ?_
  refine aw_rt ?_
  exact en_ret [.int .u64 2] (by kernel_rfl)

theorem au_51  :
    AC Tryz.prog 80 0 ([.int .u64 1, .int .u64 2]) [] (.int .u64 1) [] := by
  refine ac_in Tryz.func80 (fun w0 W pin => ?_)
  refine aw_p 3 (
    .a 1 1 <| .nil _ _) ?_
  refine aw_sq 6 7 ?_
  refine aw_bl 0 13 ?_
  refine aw_lp 27 ?_
  refine al_round ?_
  refine aw_sq 54 55 ?_
  refine aw_p 109 (
    .a 2 1 <| .nil _ _) ?_
  refine aw_tr 218 ?_
  refine aw_sk ?_
  refine then_normal ?_
  refine aw_bl 1 111 ?_
  refine aw_d1 (
    .a 6 1 <| .nil _ _) ?_
  refine block_normal ?_
  refine then_normal ?_
  refine al_round ?_
  refine aw_sq 54 55 ?_
  refine aw_p 109 (
    .a 2 1 <| .nil _ _) ?_
  refine aw_tr 218 ?_
  refine aw_sk ?_
  refine then_normal ?_
  refine aw_bl 1 111 ?_
  refine aw_d1 (
    .a 6 1 <| .nil _ _) ?_
  refine block_normal ?_
  refine then_normal ?_
  refine al_round ?_
  refine aw_sq 54 55 ?_
  refine aw_p 109 (
    .a 2 1 <| .nil _ _) ?_
  refine aw_fl 219 ?_
  refine aw_ex 0 ?_
  refine then_exit ?_
  refine then_exit ?_
  refine block_exit ?_
  refine then_normal ?_
  refine aw_p 15 (
    .a 2 1 <| .nil _ _) ?_
  refine aw_rt ?_
  exact en_ret [.int .u64 1] (by kernel_rfl)

theorem au_52  :
    AC Tryz.prog 84 0 ([.bool false, .int .u64 1, .int .u64 2]) [] (.tuple #[.agg #[.int .i64 1, .int .i64 2], .int .i64 0]) [] := by
  refine ac_in Tryz.func84 (fun w0 W pin => ?_)
  refine aw_p 3 (
    .a 2 1 <| .nil _ _) ?_
  refine aw_sq 6 7 ?_
  refine aw_p 13 (
    .a 6 2 <| .nil _ _) ?_
  refine aw_fl 27 ?_
  refine aw_sk ?_
  refine then_normal ?_
  refine aw_sq 14 15 ?_
  refine aw_p 29 (
    .a 1 2 <| .nil _ _) ?_
  refine aw_fl 59 ?_
  refine aw_sk ?_
  refine then_normal ?_
  refine aw_p 31 (
    .a 7 2 <| .nil _ _) ?_
  refine aw_rt ?_
  exact en_ret [.agg #[.int .i64 1, .int .i64 2], .int .i64 0] (by kernel_rfl)

theorem au_53  :
    AC Tryz.prog 55 0 ([.int .i64 1, .int .i64 2]) [] (.tuple #[.agg #[.int .i64 1, .int .i64 2], .int .i64 0]) [] := by
  refine ac_in Tryz.func55 (fun w0 W pin => ?_)
  refine aw_p 3 (
    .a 2 1 <| .nil _ _) ?_
  refine aw_sq 6 7 ?_
  refine aw_p 13 (
    .a 2 2 <| .nil _ _) ?_
  refine aw_fl 27 ?_
  refine aw_sk ?_
  refine then_normal ?_
  refine aw_p 15 (
    .a 1 2 <| .p (does_c (au_49)) <| .a 1 2 <| .p (does_c (au_50)) <| .a 2 2 <| .nil _ _) ?_
  refine aw_p 31 (
    .a 2 2 <| .p (does_c (au_51)) <| .a 1 2 <| .nil _ _) ?_
  refine aw_d 63 (
    .a 15 2 <| .p (does_c (au_52)) <| .a 4 2 <| .nil _ _) ?_
  refine aw_w [(0, .int .i64 1), (1, .int .i64 2), (4, .pointer (some ⟨1, 0, none⟩)), (5, .int .i64 0), (6, .int .u64 1), (7, .int .u64 2), (9, .int .i64 2), (10, .bool false), (12, .int .i64 1), (13, .int .u64 1), (14, .int .i64 2), (15, .int .u64 2), (16, .int .u64 1), (17, .int .u64 2), (18, .int .u64 1)] [(1, ⟨[.int .i64 1, .int .i64 2], 32, true, 2⟩)] ?_
  refine aw_rt ?_
  exact en_ret [.agg #[.int .i64 1, .int .i64 2], .int .i64 0] (by kernel_rfl)

theorem au_54  :
    AC Tryz.prog 11 0 ([.int .i64 0]) [] (.agg #[.int .i64 0, .int .i64 1]) [] := by
  refine ac_in Tryz.func11 (fun w0 W pin => ?_)
  refine aw_p 3 (
    .a 1 1 <| .nil _ _) ?_
  refine aw_p 7 (
    .a 4 2 <| .nil _ _) ?_
  refine aw_rt ?_
  exact en_ret [.agg #[.int .i64 0, .int .i64 1]] (by kernel_rfl)

theorem au_55  :
    AC Tryz.prog 81 0 ([.int .i64 0]) [] (.int .u64 0) [] := by
  refine ac_in Tryz.func81 (fun w0 W pin => ?_)
  refine aw_p 3 (
    .a 1 1 <| .nil _ _) ?_
  refine aw_sq 6 7 ?_
  refine aw_p 13 (
    .a 2 1 <| .nil _ _) ?_
  refine aw_fl 27 ?_
  refine aw_sk ?_
  refine then_normal ?_
  refine aw_p 15 (
    .a 3 1 <| .nil _ _) ?_
  refine aw_rt ?_
  exact en_ret [.int .u64 0] (by kernel_rfl)

theorem au_56  :
    AC Tryz.prog 80 0 ([.int .u64 0, .int .u64 1]) [] (.int .u64 1) [] := by
  refine ac_in Tryz.func80 (fun w0 W pin => ?_)
  refine aw_p 3 (
    .a 1 1 <| .nil _ _) ?_
  refine aw_sq 6 7 ?_
  refine aw_bl 0 13 ?_
  refine aw_lp 27 ?_
  refine al_round ?_
  refine aw_sq 54 55 ?_
  refine aw_p 109 (
    .a 2 1 <| .nil _ _) ?_
  refine aw_tr 218 ?_
  refine aw_sk ?_
  refine then_normal ?_
  refine aw_bl 1 111 ?_
  refine aw_d1 (
    .a 6 1 <| .nil _ _) ?_
  refine block_normal ?_
  refine then_normal ?_
  refine al_round ?_
  refine aw_sq 54 55 ?_
  refine aw_p 109 (
    .a 2 1 <| .nil _ _) ?_
  refine aw_fl 219 ?_
  refine aw_ex 0 ?_
  refine then_exit ?_
  refine then_exit ?_
  refine block_exit ?_
  refine then_normal ?_
  refine aw_p 15 (
    .a 2 1 <| .nil _ _) ?_
  refine aw_rt ?_
  exact en_ret [.int .u64 1] (by kernel_rfl)

theorem au_57  :
    AC Tryz.prog 67 0 ([.agg #[.int .i64 0, .int .i64 1]]) [] (.bool true) [] := by
  refine ac_in Tryz.func67 (fun w0 W pin => ?_)
  refine aw_p 3 (
    .a 2 1 <| .nil _ _) ?_
  refine aw_d 7 (
    .a 11 2 <| .p (does_c (au_55)) <| .a 2 2 <| .p (does_c (au_49)) <| .p (does_c (au_56)) <| .a 3 2 <| .nil _ _) ?_
  refine aw_rt ?_
  exact en_ret [.bool true] (by kernel_rfl)

theorem au_58  :
    AC Tryz.prog 36 0 ([.agg #[.int .i64 0, .int .i64 1]]) [] (.agg #[.int .i64 0, .int .i64 1]) [] := by
  refine ac_in Tryz.func36 (fun w0 W pin => ?_)
  refine aw_p 3 (
    .a 2 1 <| .nil _ _) ?_
  refine aw_sq 6 7 ?_
  refine aw_p 13 (
    .a 1 3 <| .p (does_c (au_57)) <| .a 1 3 <| .nil _ _) ?_
  refine aw_fl 27 ?_
  refine aw_sk ?_
  refine then_normal ?_
  refine aw_p 15 (
    .a 2 3 <| .nil _ _) ?_
  refine aw_rt ?_
  exact en_ret [.agg #[.int .i64 0, .int .i64 1]] (by kernel_rfl)

theorem au_59  :
    AC Tryz.prog 67 0 ([.agg #[.int .i64 1, .int .i64 2]]) [] (.bool true) [] := by
  refine ac_in Tryz.func67 (fun w0 W pin => ?_)
  refine aw_p 3 (
    .a 2 1 <| .nil _ _) ?_
  refine aw_d 7 (
    .a 11 2 <| .p (does_c (au_49)) <| .a 2 2 <| .p (does_c (au_50)) <| .p (does_c (au_51)) <| .a 3 2 <| .nil _ _) ?_
  refine aw_rt ?_
  exact en_ret [.bool true] (by kernel_rfl)

theorem au_60  :
    AC Tryz.prog 36 0 ([.agg #[.int .i64 1, .int .i64 2]]) [] (.agg #[.int .i64 1, .int .i64 2]) [] := by
  refine ac_in Tryz.func36 (fun w0 W pin => ?_)
  refine aw_p 3 (
    .a 2 1 <| .nil _ _) ?_
  refine aw_sq 6 7 ?_
  refine aw_p 13 (
    .a 1 3 <| .p (does_c (au_59)) <| .a 1 3 <| .nil _ _) ?_
  refine aw_fl 27 ?_
  refine aw_sk ?_
  refine then_normal ?_
  refine aw_p 15 (
    .a 2 3 <| .nil _ _) ?_
  refine aw_rt ?_
  exact en_ret [.agg #[.int .i64 1, .int .i64 2]] (by kernel_rfl)

theorem au_61  :
    AC Tryz.prog 46 0 ([.int .u64 0, .int .u64 2]) [] (.tuple #[.int .u64 0, .int .u64 0]) [] := by
  refine ac_in Tryz.func46 (fun w0 W pin => ?_)
  refine aw_p 3 (
    .a 2 1 <| .nil _ _) ?_
  refine aw_p 7 (
    .a 3 1 <| .nil _ _) ?_
  refine aw_p 15 (
    .a 3 1 <| .nil _ _) ?_
  refine aw_p 31 (
    .a 3 1 <| .nil _ _) ?_
  refine aw_p 63 (
    .a 3 1 <| .nil _ _) ?_
  refine aw_p 127 (
    .a 4 1 <| .nil _ _) ?_
  refine aw_p 255 (
    .a 7 1 <| .nil _ _) ?_
  refine aw_w [(0, .int .u64 0), (1, .int .u64 2), (4, .int .u64 0), (5, .int .u64 0), (6, .int .u64 0), (7, .int .u64 0), (8, .int .u64 2), (9, .int .u64 0), (11, .int .u64 0), (14, .int .u64 0), (15, .int .u64 0), (16, .int .u64 0), (17, .int .u64 0), (18, .int .u64 2), (19, .int .u64 2), (20, .int .u64 2), (21, .int .u64 0), (22, .int .u64 0), (23, .int .u64 2), (24, .int .u64 0)] [] ?_
  refine aw_p 511 (
    .a 3 1 <| .nil _ _) ?_
  refine aw_p 1023 (
    .a 3 1 <| .nil _ _) ?_
  refine aw_p 2047 (
    .a 6 1 <| .nil _ _) ?_
  refine aw_p 4095 (
    .a 9 1 <| .nil _ _) ?_
  refine aw_p 8191 (
    .a 4 1 <| .nil _ _) ?_
  refine aw_w [(0, .int .u64 0), (1, .int .u64 2), (4, .int .u64 0), (5, .int .u64 0), (6, .int .u64 0), (7, .int .u64 0), (8, .int .u64 2), (9, .int .u64 0), (11, .int .u64 0), (12, .int .u64 0), (13, .int .u64 0), (14, .int .u64 0), (15, .int .u64 0), (16, .int .u64 0), (17, .int .u64 0), (18, .int .u64 2), (19, .int .u64 2), (20, .int .u64 2), (21, .int .u64 0), (22, .int .u64 0), (23, .int .u64 2), (24, .int .u64 0), (31, .int .u64 0), (32, .int .u64 0), (33, .int .u64 0), (34, .int .u64 0), (35, .int .u64 0), (36, .int .u64 0), (37, .int .u64 0), (38, .int .u64 0), (39, .int .u64 0), (40, .int .u64 0), (41, .int .u64 0), (42, .int .u64 0), (43, .int .u64 0), (44, .int .u64 0), (45, .int .u64 0), (46, .int .u64 0), (47, .int .u64 0)] [] ?_
  refine aw_rt ?_
  exact en_ret [.int .u64 0, .int .u64 0] (by kernel_rfl)

theorem au_62  :
    AC Tryz.prog 16 0 ([.int .i64 0, .int .i64 2]) [] (.agg #[.int .i64 0, .int .u64 0]) [] := by
  refine ac_in Tryz.func16 (fun w0 W pin => ?_)
  refine aw_p 3 (
    .a 1 1 <| .nil _ _) ?_
  refine aw_p 7 (
    .a 4 2 <| .p (does_c (au_61)) <| .a 5 2 <| .nil _ _) ?_
  refine aw_sq 14 15 ?_
  refine aw_p 29 (
    .a 2 2 <| .nil _ _) ?_
  refine aw_fl 59 ?_
  refine aw_sk ?_
  refine then_normal ?_
  refine aw_sq 30 31 ?_
  refine aw_p 61 (
    .a 2 2 <| .nil _ _) ?_
  refine aw_fl 123 ?_
  refine aw_sk ?_
  refine then_normal ?_
  refine aw_p 63 (
    .a 5 2 <| .nil _ _) ?_
  refine aw_rt ?_
  exact en_ret [.agg #[.int .i64 0, .int .u64 0]] (by kernel_rfl)

theorem au_63  :
    AC Tryz.prog 82 0 ([.agg #[.int .i64 0, .int .u64 0], .agg #[.int .i64 0, .int .u64 1]]) [] (.agg #[.int .i64 0, .int .u64 1]) [] := by
  refine ac_in Tryz.func82 (fun w0 W pin => ?_)
  refine aw_p 3 (
    .a 3 1 <| .nil _ _) ?_
  refine aw_p 7 (
    .a 4 4 <| .p (does_val (v' := .tuple #[.int .u64 1, .int .u64 0]) (does_x (run_add64 Tryz.func102 (by kernel_rfl) (by kernel_rfl) (by kernel_rfl) (by kernel_rfl) 0 1 0 (by omega) (by omega) (by omega) (by omega))) (by kernel_rfl)) <| .a 5 4 <| .nil _ _) ?_
  refine aw_p 15 (
    .a 7 4 <| .p (does_val (v' := .tuple #[.int .u64 0, .int .u64 0]) (does_x (run_add64 Tryz.func102 (by kernel_rfl) (by kernel_rfl) (by kernel_rfl) (by kernel_rfl) 0 0 0 (by omega) (by omega) (by omega) (by omega))) (by kernel_rfl)) <| .a 5 4 <| .nil _ _) ?_
  refine aw_w [(0, .agg #[.int .i64 0, .int .u64 0]), (1, .agg #[.int .i64 0, .int .u64 1]), (2, .pointer (some ⟨1, 0, none⟩)), (3, .pointer (some ⟨2, 0, none⟩)), (4, .pointer (some ⟨3, 0, none⟩)), (5, .int .u64 1), (7, .int .u64 0), (9, .tuple #[.int .u64 1, .int .u64 0]), (10, .pointer (some ⟨1, 1, none⟩)), (11, .int .u64 0), (12, .pointer (some ⟨2, 1, none⟩)), (13, .int .u64 1), (14, .tuple #[.int .u64 1, .int .u64 0]), (15, .int .u64 1), (16, .int .u64 0)] [(1, ⟨[.int .i64 0, .int .u64 0], 53, true, 2⟩), (2, ⟨[.int .i64 0, .int .u64 1], 53, true, 2⟩), (3, ⟨[.int .i64 0, .int .u64 0], 53, true, 2⟩)] ?_
  refine aw_p 31 (
    .a 5 4 <| .nil _ _) ?_
  refine aw_rt ?_
  exact en_ret [.agg #[.int .i64 0, .int .u64 1]] (by kernel_rfl)

theorem au_64  :
    AC Tryz.prog 87 0 ([.int .u64 0, .int .u64 1, .int .u64 1]) [] (.tuple #[.int .u64 1, .int .u64 0]) [] := by
  refine ac_in Tryz.func87 (fun w0 W pin => ?_)
  refine aw_p 3 (
    .a 2 1 <| .nil _ _) ?_
  refine aw_sq 6 7 ?_
  refine aw_p 13 (
    .a 2 1 <| .nil _ _) ?_
  refine aw_fl 27 ?_
  refine aw_sk ?_
  refine then_normal ?_
  refine aw_sq 14 15 ?_
  refine aw_p 29 (
    .a 3 1 <| .nil _ _) ?_
  refine aw_fl 59 ?_
  refine aw_sk ?_
  refine then_normal ?_
  refine aw_sq 30 31 ?_
  refine aw_p 61 (
    .a 2 1 <| .nil _ _) ?_
  refine aw_tr 122 ?_
  refine aw_d 245 (
    .a 8 1 <| .nil _ _) ?_
  refine aw_rt ?_
  refine then_ret ?_
  exact en_ret [.int .u64 1, .int .u64 0] (by kernel_rfl)

theorem au_65  :
    AC Tryz.prog 72 0 ([.agg #[.int .i64 0, .int .u64 1], .int .i64 1]) [] (.tuple #[.agg #[.int .i64 0, .int .u64 1], .int .i64 0, .int .i64 0]) [] := by
  refine ac_in Tryz.func72 (fun w0 W pin => ?_)
  refine aw_p 3 (
    .a 4 1 <| .nil _ _) ?_
  refine aw_sq 6 7 ?_
  refine aw_p 13 (
    .a 2 3 <| .nil _ _) ?_
  refine aw_fl 27 ?_
  refine aw_sk ?_
  refine then_normal ?_
  refine aw_p 15 (
    .a 4 3 <| .nil _ _) ?_
  refine aw_sq 30 31 ?_
  refine aw_p 61 (
    .a 1 3 <| .nil _ _) ?_
  refine aw_fl 123 ?_
  refine aw_sk ?_
  refine then_normal ?_
  refine aw_d 63 (
    .a 14 3 <| .nil _ _) ?_
  refine aw_w [(0, .agg #[.int .i64 0, .int .u64 1]), (1, .int .i64 1), (2, .pointer (some ⟨1, 0, none⟩)), (4, .pointer (some ⟨2, 0, none⟩)), (5, .int .i64 0), (6, .int .i64 0), (7, .bool false), (8, .int .u64 0), (9, .int .u64 0), (11, .int .i64 1), (12, .bool false), (14, .pointer (some ⟨1, 0, none⟩)), (15, .int .i64 0), (16, .bool false), (17, .bool false)] [(1, ⟨[.int .i64 0, .int .u64 1], 53, true, 2⟩), (2, ⟨[.int .i64 0, .int .u64 0], 53, true, 2⟩)] ?_
  refine aw_p 127 (
    .a 5 3 <| .p (does_c (au_64)) <| .a 5 3 <| .nil _ _) ?_
  refine aw_sq 254 255 ?_
  refine aw_p 509 (
    .a 1 3 <| .nil _ _) ?_
  refine aw_fl 1019 ?_
  refine aw_sk ?_
  refine then_normal ?_
  refine aw_p 511 (
    .a 9 3 <| .nil _ _) ?_
  refine aw_rt ?_
  exact en_ret [.agg #[.int .i64 0, .int .u64 1], .int .i64 0, .int .i64 0] (by kernel_rfl)

theorem au_66  :
    AC Tryz.prog 83 0 ([.agg #[.int .i64 0, .int .u64 1], .int .i64 1]) [] (.tuple #[.agg #[.int .i64 0, .int .u64 1], .int .i64 0, .int .i64 0]) [] := by
  refine ac_in Tryz.func83 (fun w0 W pin => ?_)
  refine aw_p 3 (
    .a 4 1 <| .nil _ _) ?_
  refine aw_p 7 (
    .a 2 3 <| .p (does_c (au_65)) <| .a 6 3 <| .nil _ _) ?_
  refine aw_rt ?_
  exact en_ret [.agg #[.int .i64 0, .int .u64 1], .int .i64 0, .int .i64 0] (by kernel_rfl)

theorem au_67  :
    AC Tryz.prog 17 0 ([.int .i64 1]) [] (.agg #[.int .i64 0, .int .u64 1]) [] := by
  refine ac_in Tryz.func17 (fun w0 W pin => ?_)
  refine aw_p 3 (
    .a 1 1 <| .nil _ _) ?_
  refine aw_p 7 (
    .a 6 2 <| .nil _ _) ?_
  refine aw_rt ?_
  exact en_ret [.agg #[.int .i64 0, .int .u64 1]] (by kernel_rfl)

theorem au_68  :
    AC Tryz.prog 73 0 ([.agg #[.int .i64 0, .int .u64 1]]) [] (.tuple #[.int .i64 1, .int .i64 0]) [] := by
  refine ac_in Tryz.func73 (fun w0 W pin => ?_)
  refine aw_p 3 (
    .a 3 1 <| .nil _ _) ?_
  refine aw_sq 6 7 ?_
  refine aw_d 13 (
    .a 4 2 <| .p (does_c (au_67)) <| .p (does_e false ((show (!((0 == 0) && ((1 == 1) && true))) = false from by decide))) <| .nil _ _) ?_
  refine aw_fl 27 ?_
  refine aw_sk ?_
  refine then_normal ?_
  refine aw_p 15 (
    .a 5 2 <| .nil _ _) ?_
  refine aw_rt ?_
  exact en_ret [.int .i64 1, .int .i64 0] (by kernel_rfl)

theorem au_69  :
    AC Tryz.prog 46 0 ([.int .u64 1, .int .u64 2]) [] (.tuple #[.int .u64 0, .int .u64 2]) [] := by
  refine ac_in Tryz.func46 (fun w0 W pin => ?_)
  refine aw_p 3 (
    .a 2 1 <| .nil _ _) ?_
  refine aw_p 7 (
    .a 3 1 <| .nil _ _) ?_
  refine aw_p 15 (
    .a 3 1 <| .nil _ _) ?_
  refine aw_p 31 (
    .a 3 1 <| .nil _ _) ?_
  refine aw_p 63 (
    .a 3 1 <| .nil _ _) ?_
  refine aw_p 127 (
    .a 4 1 <| .nil _ _) ?_
  refine aw_p 255 (
    .a 7 1 <| .nil _ _) ?_
  refine aw_w [(0, .int .u64 1), (1, .int .u64 2), (4, .int .u64 0), (5, .int .u64 0), (6, .int .u64 1), (7, .int .u64 0), (8, .int .u64 2), (9, .int .u64 0), (11, .int .u64 0), (14, .int .u64 1), (15, .int .u64 1), (16, .int .u64 1), (17, .int .u64 0), (18, .int .u64 2), (19, .int .u64 2), (20, .int .u64 2), (21, .int .u64 0), (22, .int .u64 1), (23, .int .u64 2), (24, .int .u64 2)] [] ?_
  refine aw_p 511 (
    .a 3 1 <| .nil _ _) ?_
  refine aw_p 1023 (
    .a 3 1 <| .nil _ _) ?_
  refine aw_p 2047 (
    .a 6 1 <| .nil _ _) ?_
  refine aw_p 4095 (
    .a 9 1 <| .nil _ _) ?_
  refine aw_p 8191 (
    .a 4 1 <| .nil _ _) ?_
  refine aw_w [(0, .int .u64 1), (1, .int .u64 2), (4, .int .u64 0), (5, .int .u64 2), (6, .int .u64 1), (7, .int .u64 0), (8, .int .u64 2), (9, .int .u64 0), (11, .int .u64 0), (12, .int .u64 0), (13, .int .u64 0), (14, .int .u64 1), (15, .int .u64 1), (16, .int .u64 1), (17, .int .u64 0), (18, .int .u64 2), (19, .int .u64 2), (20, .int .u64 2), (21, .int .u64 0), (22, .int .u64 1), (23, .int .u64 2), (24, .int .u64 2), (31, .int .u64 0), (32, .int .u64 0), (33, .int .u64 0), (34, .int .u64 0), (35, .int .u64 0), (36, .int .u64 1), (37, .int .u64 0), (38, .int .u64 0), (39, .int .u64 0), (40, .int .u64 0), (41, .int .u64 0), (42, .int .u64 0), (43, .int .u64 0), (44, .int .u64 0), (45, .int .u64 0), (46, .int .u64 0), (47, .int .u64 0)] [] ?_
  refine aw_rt ?_
  exact en_ret [.int .u64 0, .int .u64 2] (by kernel_rfl)

theorem au_70  :
    AC Tryz.prog 16 0 ([.int .i64 1, .int .i64 2]) [] (.agg #[.int .i64 0, .int .u64 2]) [] := by
  refine ac_in Tryz.func16 (fun w0 W pin => ?_)
  refine aw_p 3 (
    .a 1 1 <| .nil _ _) ?_
  refine aw_p 7 (
    .a 4 2 <| .p (does_c (au_69)) <| .a 5 2 <| .nil _ _) ?_
  refine aw_sq 14 15 ?_
  refine aw_p 29 (
    .a 2 2 <| .nil _ _) ?_
  refine aw_fl 59 ?_
  refine aw_sk ?_
  refine then_normal ?_
  refine aw_sq 30 31 ?_
  refine aw_p 61 (
    .a 2 2 <| .nil _ _) ?_
  refine aw_fl 123 ?_
  refine aw_sk ?_
  refine then_normal ?_
  refine aw_p 63 (
    .a 5 2 <| .nil _ _) ?_
  refine aw_rt ?_
  exact en_ret [.agg #[.int .i64 0, .int .u64 2]] (by kernel_rfl)

theorem au_71  :
    AC Tryz.prog 17 0 ([.int .i64 2]) [] (.agg #[.int .i64 0, .int .u64 2]) [] := by
  refine ac_in Tryz.func17 (fun w0 W pin => ?_)
  refine aw_p 3 (
    .a 1 1 <| .nil _ _) ?_
  refine aw_p 7 (
    .a 6 2 <| .nil _ _) ?_
  refine aw_rt ?_
  exact en_ret [.agg #[.int .i64 0, .int .u64 2]] (by kernel_rfl)

theorem au_72  :
    AC Tryz.prog 73 0 ([.agg #[.int .i64 0, .int .u64 2]]) [] (.tuple #[.int .i64 2, .int .i64 0]) [] := by
  refine ac_in Tryz.func73 (fun w0 W pin => ?_)
  refine aw_p 3 (
    .a 3 1 <| .nil _ _) ?_
  refine aw_sq 6 7 ?_
  refine aw_d 13 (
    .a 4 2 <| .p (does_c (au_71)) <| .p (does_e false ((show (!((0 == 0) && ((2 == 2) && true))) = false from by decide))) <| .nil _ _) ?_
  refine aw_fl 27 ?_
  refine aw_sk ?_
  refine then_normal ?_
  refine aw_p 15 (
    .a 5 2 <| .nil _ _) ?_
  refine aw_rt ?_
  exact en_ret [.int .i64 2, .int .i64 0] (by kernel_rfl)

theorem au_73  :
    AC Tryz.prog 54 0 ([.agg #[.int .i64 0, .int .i64 1], .agg #[.int .i64 1, .int .i64 2]]) [] (.tuple #[.agg #[.int .i64 1, .int .i64 2], .int .i64 0]) [] := by
  refine ac_in Tryz.func54 (fun w0 W pin => ?_)
  refine aw_p 3 (
    .a 4 1 <| .nil _ _) ?_
  refine aw_d 7 (
    .a 1 4 <| .p (does_c (au_58)) <| .a 1 4 <| .p (does_c (au_60)) <| .a 2 4 <| .nil _ _) ?_
  refine aw_d 15 (
    .a 2 4 <| .p (does_c (au_49)) <| .a 2 4 <| .p (does_c (au_50)) <| .p (does_c (au_51)) <| .a 2 4 <| .nil _ _) ?_
  refine aw_d 31 (
    .a 6 4 <| .p (does_c (au_62)) <| .a 6 4 <| .p (does_c (au_44)) <| .p (does_c (au_63)) <| .a 2 4 <| .nil _ _) ?_
  refine aw_w [(0, .agg #[.int .i64 0, .int .i64 1]), (1, .agg #[.int .i64 1, .int .i64 2]), (2, .pointer (some ⟨1, 0, none⟩)), (3, .pointer (some ⟨2, 0, none⟩)), (4, .pointer (some ⟨3, 0, none⟩)), (5, .int .i64 0), (6, .int .i64 1), (7, .pointer (some ⟨4, 0, none⟩)), (18, .agg #[.int .i64 0, .int .i64 1]), (19, .agg #[.int .i64 0, .int .i64 1]), (20, .agg #[.int .i64 1, .int .i64 2]), (21, .agg #[.int .i64 1, .int .i64 2]), (22, .pointer (some ⟨1, 1, none⟩)), (23, .int .i64 1), (24, .int .u64 1), (25, .pointer (some ⟨2, 1, none⟩)), (26, .int .i64 2), (27, .int .u64 2), (28, .int .u64 1), (29, .int .i64 1)] [(1, ⟨[.int .i64 0, .int .i64 1], 32, true, 2⟩), (2, ⟨[.int .i64 1, .int .i64 2], 32, true, 2⟩), (3, ⟨[.int .i64 0, .int .i64 0], 32, true, 2⟩), (4, ⟨[.int .i64 0, .int .u64 1], 53, true, 2⟩)] ?_
  refine aw_p 63 (
    .a 2 5 <| .p (does_c (au_65)) <| .a 8 5 <| .nil _ _) ?_
  refine aw_p 127 (
    .a 1 6 <| .p (does_c (au_55)) <| .a 1 6 <| .p (does_c (au_49)) <| .p (does_c (au_56)) <| .a 2 6 <| .nil _ _) ?_
  refine aw_p 255 (
    .a 2 6 <| .p (does_c (au_66)) <| .a 8 6 <| .nil _ _) ?_
  refine aw_w [(0, .agg #[.int .i64 0, .int .i64 1]), (1, .agg #[.int .i64 1, .int .i64 2]), (2, .pointer (some ⟨1, 0, none⟩)), (3, .pointer (some ⟨2, 0, none⟩)), (4, .pointer (some ⟨3, 0, none⟩)), (5, .int .i64 0), (6, .int .i64 1), (7, .pointer (some ⟨4, 0, none⟩)), (8, .pointer (some ⟨5, 0, none⟩)), (9, .int .i64 0), (11, .int .i64 1), (12, .pointer (some ⟨6, 0, none⟩)), (18, .agg #[.int .i64 0, .int .i64 1]), (19, .agg #[.int .i64 0, .int .i64 1]), (20, .agg #[.int .i64 1, .int .i64 2]), (21, .agg #[.int .i64 1, .int .i64 2]), (22, .pointer (some ⟨1, 1, none⟩)), (23, .int .i64 1), (24, .int .u64 1), (25, .pointer (some ⟨2, 1, none⟩)), (26, .int .i64 2), (27, .int .u64 2), (28, .int .u64 1), (29, .int .i64 1), (45, .tuple #[.agg #[.int .i64 0, .int .u64 1], .int .i64 0, .int .i64 0]), (46, .agg #[.int .i64 0, .int .u64 1]), (47, .int .i64 1), (48, .tuple #[.agg #[.int .i64 0, .int .u64 1], .int .i64 0, .int .i64 0]), (49, .agg #[.int .i64 0, .int .u64 1]), (50, .int .i64 0), (51, .int .i64 0), (52, .int .i64 0), (53, .int .u64 0), (54, .int .i64 1), (55, .int .u64 1), (56, .int .u64 1), (57, .int .i64 1)] [(1, ⟨[.int .i64 0, .int .i64 1], 32, true, 2⟩), (2, ⟨[.int .i64 1, .int .i64 2], 32, true, 2⟩), (3, ⟨[.int .i64 0, .int .i64 0], 32, true, 2⟩), (4, ⟨[.int .i64 0, .int .u64 1], 53, true, 2⟩), (5, ⟨[.int .i64 0, .int .u64 1], 53, true, 2⟩), (6, ⟨[.int .i64 0, .int .u64 1], 53, true, 2⟩)] ?_
  refine aw_p 511 (
    .a 1 7 <| .p (does_c (au_68)) <| .a 5 7 <| .nil _ _) ?_
  refine aw_d 1023 (
    .a 8 7 <| .p (does_c (au_70)) <| .p (does_c (au_72)) <| .a 5 7 <| .nil _ _) ?_
  refine aw_sq 2046 2047 ?_
  refine aw_p 4093 (
    .a 14 7 <| .nil _ _) ?_
  refine aw_w [(0, .agg #[.int .i64 0, .int .i64 1]), (1, .agg #[.int .i64 1, .int .i64 2]), (2, .pointer (some ⟨1, 0, none⟩)), (3, .pointer (some ⟨2, 0, none⟩)), (4, .pointer (some ⟨3, 0, none⟩)), (5, .int .i64 0), (6, .int .i64 1), (7, .pointer (some ⟨4, 0, none⟩)), (8, .pointer (some ⟨5, 0, none⟩)), (9, .int .i64 0), (11, .int .i64 1), (12, .pointer (some ⟨6, 0, none⟩)), (14, .int .i64 1), (16, .int .i64 2), (18, .agg #[.int .i64 0, .int .i64 1]), (19, .agg #[.int .i64 0, .int .i64 1]), (20, .agg #[.int .i64 1, .int .i64 2]), (21, .agg #[.int .i64 1, .int .i64 2]), (22, .pointer (some ⟨1, 1, none⟩)), (23, .int .i64 1), (24, .int .u64 1), (25, .pointer (some ⟨2, 1, none⟩)), (26, .int .i64 2), (27, .int .u64 2), (28, .int .u64 1), (29, .int .i64 1), (45, .tuple #[.agg #[.int .i64 0, .int .u64 1], .int .i64 0, .int .i64 0]), (46, .agg #[.int .i64 0, .int .u64 1]), (47, .int .i64 1), (48, .tuple #[.agg #[.int .i64 0, .int .u64 1], .int .i64 0, .int .i64 0]), (49, .agg #[.int .i64 0, .int .u64 1]), (50, .int .i64 0), (51, .int .i64 0), (52, .int .i64 0), (53, .int .u64 0), (54, .int .i64 1), (55, .int .u64 1), (56, .int .u64 1), (57, .int .i64 1), (65, .tuple #[.int .i64 1, .int .i64 0]), (66, .agg #[.int .i64 0, .int .u64 1]), (67, .tuple #[.int .i64 1, .int .i64 0]), (68, .int .i64 1), (69, .int .i64 0), (70, .tuple #[.int .i64 2, .int .i64 0]), (71, .pointer (some ⟨1, 1, none⟩)), (72, .int .i64 1), (73, .int .i64 1), (74, .int .i64 1), (75, .pointer (some ⟨2, 1, none⟩)), (76, .int .i64 2), (77, .int .i64 1), (78, .int .i64 2), (79, .agg #[.int .i64 0, .int .u64 2]), (80, .tuple #[.int .i64 2, .int .i64 0]), (81, .int .i64 2), (82, .int .i64 0), (96, .bool false)] [(1, ⟨[.int .i64 0, .int .i64 1], 32, true, 2⟩), (2, ⟨[.int .i64 1, .int .i64 2], 32, true, 2⟩), (3, ⟨[.int .i64 0, .int .i64 0], 32, true, 2⟩), (4, ⟨[.int .i64 0, .int .u64 1], 53, true, 2⟩), (5, ⟨[.int .i64 0, .int .u64 1], 53, true, 2⟩), (6, ⟨[.int .i64 0, .int .u64 1], 53, true, 2⟩)] ?_
  refine aw_fl 8187 ?_
  refine aw_sk ?_
  refine then_normal ?_
  refine aw_p 4095 (
    .a 5 7 <| .nil _ _) ?_
  refine aw_rt ?_
  exact en_ret [.agg #[.int .i64 1, .int .i64 2], .int .i64 0] (by kernel_rfl)

theorem au_74  :
    AC Tryz.prog 43 0 ([.int .i64 0, .int .i64 1, .int .i64 1, .int .i64 2]) [] (.agg #[.int .i64 1, .int .i64 2]) [] := by
  refine ac_in Tryz.func43 (fun w0 W pin => ?_)
  refine aw_p 3 (
    .a 1 1 <| .nil _ _) ?_
  refine aw_p 7 (
    .a 2 2 <| .p (does_c (au_44)) <| .a 1 2 <| .p (does_c (au_46)) <| .a 8 2 <| .nil _ _) ?_
  refine aw_p 15 (
    .a 1 3 <| .p (does_c (au_48)) <| .a 5 3 <| .nil _ _) ?_
  refine aw_p 31 (
    .a 2 3 <| .p (does_c (au_53)) <| .a 6 3 <| .nil _ _) ?_
  refine aw_w [(0, .int .i64 0), (1, .int .i64 1), (2, .int .i64 1), (3, .int .i64 2), (8, .pointer (some ⟨1, 0, none⟩)), (9, .pointer (some ⟨2, 0, none⟩)), (12, .int .i64 0), (14, .pointer (some ⟨3, 0, none⟩)), (18, .tuple #[.agg #[.int .i64 0, .int .u64 0], .int .i64 1, .int .i64 0]), (19, .int .i64 1), (20, .int .i64 1), (21, .agg #[.int .i64 0, .int .u64 1]), (22, .int .i64 2), (23, .tuple #[.agg #[.int .i64 0, .int .u64 0], .int .i64 1, .int .i64 0]), (24, .agg #[.int .i64 0, .int .u64 0]), (25, .int .i64 1), (26, .int .i64 0), (27, .tuple #[.int .i64 0, .int .i64 0]), (28, .agg #[.int .i64 0, .int .u64 0]), (29, .tuple #[.int .i64 0, .int .i64 0]), (30, .int .i64 0), (31, .int .i64 0)] [(1, ⟨[.int .i64 0, .int .i64 0], 32, true, 2⟩), (2, ⟨[.int .i64 0, .int .u64 0], 53, true, 2⟩), (3, ⟨[.int .i64 1, .int .i64 2], 32, true, 2⟩)] ?_
  refine aw_d 63 (
    .a 3 4 <| .p (does_c (au_54)) <| .a 1 4 <| .p (does_c (au_73)) <| .a 6 4 <| .nil _ _) ?_
  refine aw_p 127 (
    .a 2 5 <| .nil _ _) ?_
  refine aw_rt ?_
  exact en_ret [.agg #[.int .i64 1, .int .i64 2]] (by kernel_rfl)

theorem au_75  :
    AC Tryz.prog 13 0 ([.agg #[.int .i64 0, .int .i64 0], .agg #[.int .i64 1, .int .i64 1], .agg #[.int .i64 0, .int .i64 1], .agg #[.int .i64 1, .int .i64 0]]) [] (.tuple #[.agg #[.int .i64 1, .int .i64 2, .int .i64 1, .int .i64 2], .int .i64 0]) [] := by
  refine ac_in Tryz.func13 (fun w0 W pin => ?_)
  refine aw_p 3 (
    .a 6 1 <| .nil _ _) ?_
  refine aw_d 7 (
    .a 1 6 <| .p (does_c (au_9)) <| .a 1 6 <| .p (does_c (au_11)) <| .a 1 6 <| .p (does_c (au_12)) <| .a 1 6 <| .p (does_c (au_13)) <| .a 4 6 <| .nil _ _) ?_
  refine aw_sq 14 15 ?_
  refine aw_p 29 (
    .a 4 6 <| .p (does_c (au_33)) <| .nil _ _) ?_
  refine aw_bl 0 59 ?_
  refine aw_p 119 (
    .a 2 6 <| .nil _ _) ?_
  refine aw_w [(0, .agg #[.int .i64 0, .int .i64 0]), (1, .agg #[.int .i64 1, .int .i64 1]), (2, .agg #[.int .i64 0, .int .i64 1]), (3, .agg #[.int .i64 1, .int .i64 0]), (4, .pointer (some ⟨1, 0, none⟩)), (5, .pointer (some ⟨2, 0, none⟩)), (6, .pointer (some ⟨3, 0, none⟩)), (7, .pointer (some ⟨4, 0, none⟩)), (8, .pointer (some ⟨5, 0, none⟩)), (9, .int .i64 0), (13, .agg #[.int .i64 0, .int .i64 0]), (14, .agg #[.int .i64 0, .int .i64 0]), (15, .agg #[.int .i64 1, .int .i64 1]), (16, .agg #[.int .i64 1, .int .i64 1]), (17, .agg #[.int .i64 0, .int .i64 1]), (18, .agg #[.int .i64 0, .int .i64 1]), (19, .agg #[.int .i64 1, .int .i64 0]), (20, .agg #[.int .i64 1, .int .i64 0]), (21, .agg #[.int .i64 0, .int .i64 0]), (22, .agg #[.int .i64 1, .int .i64 1]), (23, .agg #[.int .i64 0, .int .i64 1]), (24, .agg #[.int .i64 1, .int .i64 0]), (25, .int .i64 1), (26, .bool false)] [(1, ⟨[.int .i64 0, .int .i64 0], 27, true, 2⟩), (2, ⟨[.int .i64 1, .int .i64 1], 27, true, 2⟩), (3, ⟨[.int .i64 0, .int .i64 1], 27, true, 2⟩), (4, ⟨[.int .i64 1, .int .i64 0], 27, true, 2⟩), (5, ⟨[.int .i64 0, .int .i64 0, .int .i64 0, .int .i64 0], 46, true, 4⟩)] ?_
  refine aw_fl 239 ?_
  refine aw_p 479 (
    .a 2 6 <| .nil _ _) ?_
  refine aw_fl 959 ?_
  refine aw_sk ?_
  refine block_normal ?_
  refine then_normal ?_
  refine aw_sq 30 31 ?_
  refine aw_p 61 (
    .a 4 6 <| .p (does_c (au_42)) <| .a 1 6 <| .nil _ _) ?_
  refine aw_p 123 (
    .a 3 6 <| .nil _ _) ?_
  refine aw_fl 247 ?_
  refine aw_sk ?_
  refine then_normal ?_
  refine aw_p 63 (
    .a 3 6 <| .p (does_c (au_28)) <| .a 1 6 <| .nil _ _) ?_
  refine aw_p 127 (
    .a 4 6 <| .p (does_c (au_31)) <| .a 2 6 <| .nil _ _) ?_
  refine aw_sq 254 255 ?_
  refine aw_p 509 (
    .a 2 6 <| .nil _ _) ?_
  refine aw_w [(0, .agg #[.int .i64 0, .int .i64 0]), (1, .agg #[.int .i64 1, .int .i64 1]), (2, .agg #[.int .i64 0, .int .i64 1]), (3, .agg #[.int .i64 1, .int .i64 0]), (4, .pointer (some ⟨1, 0, none⟩)), (5, .pointer (some ⟨2, 0, none⟩)), (6, .pointer (some ⟨3, 0, none⟩)), (7, .pointer (some ⟨4, 0, none⟩)), (8, .pointer (some ⟨5, 0, none⟩)), (9, .int .i64 0), (10, .slice none 0 0), (11, .int .i64 (-1)), (12, .int .i64 (-2)), (13, .agg #[.int .i64 0, .int .i64 0]), (14, .agg #[.int .i64 0, .int .i64 0]), (15, .agg #[.int .i64 1, .int .i64 1]), (16, .agg #[.int .i64 1, .int .i64 1]), (17, .agg #[.int .i64 0, .int .i64 1]), (18, .agg #[.int .i64 0, .int .i64 1]), (19, .agg #[.int .i64 1, .int .i64 0]), (20, .agg #[.int .i64 1, .int .i64 0]), (21, .agg #[.int .i64 0, .int .i64 0]), (22, .agg #[.int .i64 1, .int .i64 1]), (23, .agg #[.int .i64 0, .int .i64 1]), (24, .agg #[.int .i64 1, .int .i64 0]), (25, .int .i64 1), (26, .bool false), (29, .bool false), (30, .bool false), (32, .agg #[.int .i64 0, .int .i64 0]), (33, .agg #[.int .i64 1, .int .i64 1]), (34, .agg #[.int .i64 0, .int .i64 1]), (35, .agg #[.int .i64 1, .int .i64 0]), (36, .slice none 0 0), (37, .slice none 0 0), (38, .int .i64 0), (39, .bool false), (44, .agg #[.int .i64 0, .int .i64 1]), (45, .agg #[.int .i64 1, .int .i64 0]), (46, .agg #[.int .i64 0, .int .i64 0]), (47, .int .i64 (-1)), (48, .int .i64 (-1)), (49, .agg #[.int .i64 0, .int .i64 1]), (50, .agg #[.int .i64 1, .int .i64 0]), (51, .agg #[.int .i64 1, .int .i64 1]), (52, .int .i64 1), (53, .int .i64 (-2)), (55, .bool true)] [(1, ⟨[.int .i64 0, .int .i64 0], 27, true, 2⟩), (2, ⟨[.int .i64 1, .int .i64 1], 27, true, 2⟩), (3, ⟨[.int .i64 0, .int .i64 1], 27, true, 2⟩), (4, ⟨[.int .i64 1, .int .i64 0], 27, true, 2⟩), (5, ⟨[.int .i64 0, .int .i64 0, .int .i64 0, .int .i64 0], 46, true, 4⟩)] ?_
  refine aw_tr 1018 ?_
  refine aw_p1 (
    .a 6 6 <| .nil _ _) ?_
  refine then_normal ?_
  refine aw_d 511 (
    .a 9 6 <| .p (does_c (au_74)) <| .a 9 6 <| .p (does_c (au_74)) <| .a 3 6 <| .nil _ _) ?_
  refine aw_w [(0, .agg #[.int .i64 0, .int .i64 0]), (1, .agg #[.int .i64 1, .int .i64 1]), (2, .agg #[.int .i64 0, .int .i64 1]), (3, .agg #[.int .i64 1, .int .i64 0]), (4, .pointer (some ⟨1, 0, none⟩)), (5, .pointer (some ⟨2, 0, none⟩)), (6, .pointer (some ⟨3, 0, none⟩)), (7, .pointer (some ⟨4, 0, none⟩)), (8, .pointer (some ⟨5, 0, none⟩)), (9, .int .i64 0), (10, .slice none 0 0), (11, .int .i64 1), (12, .int .i64 2), (13, .agg #[.int .i64 0, .int .i64 0]), (14, .agg #[.int .i64 0, .int .i64 0]), (15, .agg #[.int .i64 1, .int .i64 1]), (16, .agg #[.int .i64 1, .int .i64 1]), (17, .agg #[.int .i64 0, .int .i64 1]), (18, .agg #[.int .i64 0, .int .i64 1]), (19, .agg #[.int .i64 1, .int .i64 0]), (20, .agg #[.int .i64 1, .int .i64 0]), (21, .agg #[.int .i64 0, .int .i64 0]), (22, .agg #[.int .i64 1, .int .i64 1]), (23, .agg #[.int .i64 0, .int .i64 1]), (24, .agg #[.int .i64 1, .int .i64 0]), (25, .int .i64 1), (26, .bool false), (29, .bool false), (30, .bool false), (32, .agg #[.int .i64 0, .int .i64 0]), (33, .agg #[.int .i64 1, .int .i64 1]), (34, .agg #[.int .i64 0, .int .i64 1]), (35, .agg #[.int .i64 1, .int .i64 0]), (36, .slice none 0 0), (37, .slice none 0 0), (38, .int .i64 0), (39, .bool false), (44, .agg #[.int .i64 0, .int .i64 1]), (45, .agg #[.int .i64 1, .int .i64 0]), (46, .agg #[.int .i64 0, .int .i64 0]), (47, .int .i64 (-1)), (48, .int .i64 (-1)), (49, .agg #[.int .i64 0, .int .i64 1]), (50, .agg #[.int .i64 1, .int .i64 0]), (51, .agg #[.int .i64 1, .int .i64 1]), (52, .int .i64 1), (53, .int .i64 (-2)), (55, .bool true), (56, .int .i64 (-1)), (57, .int .i64 1), (58, .int .i64 (-2)), (59, .int .i64 2)] [(1, ⟨[.int .i64 0, .int .i64 0], 27, true, 2⟩), (2, ⟨[.int .i64 1, .int .i64 1], 27, true, 2⟩), (3, ⟨[.int .i64 0, .int .i64 1], 27, true, 2⟩), (4, ⟨[.int .i64 1, .int .i64 0], 27, true, 2⟩), (5, ⟨[.int .i64 1, .int .i64 2, .int .i64 1, .int .i64 2], 46, true, 4⟩)] ?_
  refine aw_rt ?_
  exact en_ret [.agg #[.int .i64 1, .int .i64 2, .int .i64 1, .int .i64 2], .int .i64 0] (by kernel_rfl)

theorem au_76  :
    AC Tryz.prog 69 0 ([.int .i64 2, .int .i64 1048576]) [] (.int .i64 2) [] := by
  refine ac_in Tryz.func69 (fun w0 W pin => ?_)
  refine aw_p 3 (
    .a 1 1 <| .nil _ _) ?_
  refine aw_p 7 (
    .a 7 1 <| .nil _ _) ?_
  refine aw_rt ?_
  exact en_ret [.int .i64 2] (by kernel_rfl)

theorem au_77  :
    AC Tryz.prog 38 0 ([.agg #[.int .i64 2, .int .i64 0]]) [] (.agg #[.int .i64 2, .int .i64 0]) [] := by
  refine ac_in Tryz.func38 (fun w0 W pin => ?_)
  refine aw_p 3 (
    .a 2 1 <| .nil _ _) ?_
  refine aw_d 7 (
    .a 2 3 <| .p (does_c (au_76)) <| .a 2 3 <| .p (does_c (au_8)) <| .a 2 3 <| .nil _ _) ?_
  refine aw_rt ?_
  exact en_ret [.agg #[.int .i64 2, .int .i64 0]] (by kernel_rfl)

theorem au_78  :
    AC Tryz.prog 71 0 ([.agg #[.int .i64 0, .int .i64 0], .agg #[.int .i64 2, .int .i64 0]]) [] (.agg #[.int .i64 2, .int .i64 0]) [] := by
  refine ac_in Tryz.func71 (fun w0 W pin => ?_)
  refine aw_p 3 (
    .a 3 1 <| .nil _ _) ?_
  refine aw_d 7 (
    .a 1 4 <| .p (does_c (au_9)) <| .a 1 4 <| .p (does_c (au_77)) <| .a 2 4 <| .nil _ _) ?_
  refine aw_p 15 (
    .a 12 4 <| .nil _ _) ?_
  refine aw_rt ?_
  exact en_ret [.agg #[.int .i64 2, .int .i64 0]] (by kernel_rfl)

theorem au_79  :
    AC Tryz.prog 38 0 ([.agg #[.int .i64 2, .int .i64 2]]) [] (.agg #[.int .i64 2, .int .i64 2]) [] := by
  refine ac_in Tryz.func38 (fun w0 W pin => ?_)
  refine aw_p 3 (
    .a 2 1 <| .nil _ _) ?_
  refine aw_d 7 (
    .a 2 3 <| .p (does_c (au_76)) <| .a 2 3 <| .p (does_c (au_76)) <| .a 2 3 <| .nil _ _) ?_
  refine aw_rt ?_
  exact en_ret [.agg #[.int .i64 2, .int .i64 2]] (by kernel_rfl)

theorem au_80  :
    AC Tryz.prog 71 0 ([.agg #[.int .i64 0, .int .i64 0], .agg #[.int .i64 2, .int .i64 2]]) [] (.agg #[.int .i64 2, .int .i64 2]) [] := by
  refine ac_in Tryz.func71 (fun w0 W pin => ?_)
  refine aw_p 3 (
    .a 3 1 <| .nil _ _) ?_
  refine aw_d 7 (
    .a 1 4 <| .p (does_c (au_9)) <| .a 1 4 <| .p (does_c (au_79)) <| .a 2 4 <| .nil _ _) ?_
  refine aw_p 15 (
    .a 12 4 <| .nil _ _) ?_
  refine aw_rt ?_
  exact en_ret [.agg #[.int .i64 2, .int .i64 2]] (by kernel_rfl)

theorem au_81  :
    AC Tryz.prog 42 0 ([.agg #[.int .i64 0, .int .i64 0], .agg #[.int .i64 2, .int .i64 0], .agg #[.int .i64 2, .int .i64 2]]) [] (.int .i64 4) [] := by
  refine ac_in Tryz.func42 (fun w0 W pin => ?_)
  refine aw_p 3 (
    .a 4 1 <| .nil _ _) ?_
  refine aw_d 7 (
    .a 2 4 <| .p (does_c (au_78)) <| .a 2 4 <| .p (does_c (au_80)) <| .a 4 4 <| .nil _ _) ?_
  refine aw_p 15 (
    .a 12 6 <| .nil _ _) ?_
  refine aw_w [(0, .agg #[.int .i64 0, .int .i64 0]), (1, .agg #[.int .i64 2, .int .i64 0]), (2, .agg #[.int .i64 2, .int .i64 2]), (3, .pointer (some ⟨1, 0, none⟩)), (4, .pointer (some ⟨2, 0, none⟩)), (5, .pointer (some ⟨3, 0, none⟩)), (6, .int .i64 4), (7, .pointer (some ⟨4, 0, none⟩)), (8, .pointer (some ⟨5, 0, none⟩)), (9, .agg #[.int .i64 0, .int .i64 0]), (10, .agg #[.int .i64 2, .int .i64 0]), (11, .agg #[.int .i64 2, .int .i64 0]), (12, .agg #[.int .i64 0, .int .i64 0]), (13, .agg #[.int .i64 2, .int .i64 2]), (14, .agg #[.int .i64 2, .int .i64 2])] [(1, ⟨[.int .i64 0, .int .i64 0], 27, true, 2⟩), (2, ⟨[.int .i64 2, .int .i64 0], 27, true, 2⟩), (3, ⟨[.int .i64 2, .int .i64 2], 27, true, 2⟩), (4, ⟨[.int .i64 2, .int .i64 0], 27, true, 2⟩), (5, ⟨[.int .i64 2, .int .i64 2], 27, true, 2⟩)] ?_
  refine aw_rt ?_
  exact en_ret [.int .i64 4] (by kernel_rfl)

theorem au_82  :
    AC Tryz.prog 38 0 ([.agg #[.int .i64 0, .int .i64 2]]) [] (.agg #[.int .i64 0, .int .i64 2]) [] := by
  refine ac_in Tryz.func38 (fun w0 W pin => ?_)
  refine aw_p 3 (
    .a 2 1 <| .nil _ _) ?_
  refine aw_d 7 (
    .a 2 3 <| .p (does_c (au_8)) <| .a 2 3 <| .p (does_c (au_76)) <| .a 2 3 <| .nil _ _) ?_
  refine aw_rt ?_
  exact en_ret [.agg #[.int .i64 0, .int .i64 2]] (by kernel_rfl)

theorem au_83  :
    AC Tryz.prog 71 0 ([.agg #[.int .i64 0, .int .i64 0], .agg #[.int .i64 0, .int .i64 2]]) [] (.agg #[.int .i64 0, .int .i64 2]) [] := by
  refine ac_in Tryz.func71 (fun w0 W pin => ?_)
  refine aw_p 3 (
    .a 3 1 <| .nil _ _) ?_
  refine aw_d 7 (
    .a 1 4 <| .p (does_c (au_9)) <| .a 1 4 <| .p (does_c (au_82)) <| .a 2 4 <| .nil _ _) ?_
  refine aw_p 15 (
    .a 12 4 <| .nil _ _) ?_
  refine aw_rt ?_
  exact en_ret [.agg #[.int .i64 0, .int .i64 2]] (by kernel_rfl)

theorem au_84  :
    AC Tryz.prog 42 0 ([.agg #[.int .i64 0, .int .i64 0], .agg #[.int .i64 2, .int .i64 2], .agg #[.int .i64 0, .int .i64 2]]) [] (.int .i64 4) [] := by
  refine ac_in Tryz.func42 (fun w0 W pin => ?_)
  refine aw_p 3 (
    .a 4 1 <| .nil _ _) ?_
  refine aw_d 7 (
    .a 2 4 <| .p (does_c (au_80)) <| .a 2 4 <| .p (does_c (au_83)) <| .a 4 4 <| .nil _ _) ?_
  refine aw_p 15 (
    .a 12 6 <| .nil _ _) ?_
  refine aw_w [(0, .agg #[.int .i64 0, .int .i64 0]), (1, .agg #[.int .i64 2, .int .i64 2]), (2, .agg #[.int .i64 0, .int .i64 2]), (3, .pointer (some ⟨1, 0, none⟩)), (4, .pointer (some ⟨2, 0, none⟩)), (5, .pointer (some ⟨3, 0, none⟩)), (6, .int .i64 4), (7, .pointer (some ⟨4, 0, none⟩)), (8, .pointer (some ⟨5, 0, none⟩)), (9, .agg #[.int .i64 0, .int .i64 0]), (10, .agg #[.int .i64 2, .int .i64 2]), (11, .agg #[.int .i64 2, .int .i64 2]), (12, .agg #[.int .i64 0, .int .i64 0]), (13, .agg #[.int .i64 0, .int .i64 2]), (14, .agg #[.int .i64 0, .int .i64 2])] [(1, ⟨[.int .i64 0, .int .i64 0], 27, true, 2⟩), (2, ⟨[.int .i64 2, .int .i64 2], 27, true, 2⟩), (3, ⟨[.int .i64 0, .int .i64 2], 27, true, 2⟩), (4, ⟨[.int .i64 2, .int .i64 2], 27, true, 2⟩), (5, ⟨[.int .i64 0, .int .i64 2], 27, true, 2⟩)] ?_
  refine aw_rt ?_
  exact en_ret [.int .i64 4] (by kernel_rfl)

theorem au_85  :
    AC Tryz.prog 14 1 ([.slice (some ⟨0, 0, none⟩) 4 0]) [(0, ⟨[.int .i64 0, .int .i64 0, .int .i64 2, .int .i64 0, .int .i64 2, .int .i64 2, .int .i64 0, .int .i64 2], 27, true, 2⟩)] (.int .i64 8) [(0, ⟨[.int .i64 0, .int .i64 0, .int .i64 2, .int .i64 0, .int .i64 2, .int .i64 2, .int .i64 0, .int .i64 2], 27, true, 2⟩)] := by
  refine ac_in Tryz.func14 (fun w0 W pin => ?_)
  refine aw_p 3 (
    .a 1 1 <| .nil _ _) ?_
  refine aw_p 7 (
    .a 1 1 <| .nil _ _) ?_
  refine aw_sq 14 15 ?_
  refine aw_p 29 (
    .a 1 1 <| .nil _ _) ?_
  refine aw_bl 0 59 ?_
  refine aw_lp 119 ?_
  refine al_round ?_
  refine aw_sq 238 239 ?_
  refine aw_p 477 (
    .a 4 1 <| .nil _ _) ?_
  refine aw_tr 954 ?_
  refine aw_sk ?_
  refine then_normal ?_
  refine aw_sq 478 479 ?_
  refine aw_bl 1 957 ?_
  refine aw_d1 (
    .a 13 1 <| .p (does_c (au_81)) <| .a 2 1 <| .nil _ _) ?_
  refine block_normal ?_
  refine then_normal ?_
  refine aw_p1 (
    .a 3 1 <| .nil _ _) ?_
  refine then_normal ?_
  refine al_round ?_
  refine aw_sq 238 239 ?_
  refine aw_p 477 (
    .a 4 1 <| .nil _ _) ?_
  refine aw_w [(0, .slice (some ⟨0, 0, none⟩) 4 0), (2, .int .i64 0), (3, .int .i64 4), (4, .int .i64 3), (5, .int .i64 3), (6, .slice (some ⟨0, 0, none⟩) 4 0), (7, .int .i64 4), (8, .bool true), (9, .int .i64 2), (10, .int .i64 3), (11, .int .i64 0), (12, .slice (some ⟨0, 0, none⟩) 4 0), (13, .pointer (some ⟨0, 0, none⟩)), (14, .agg #[.int .i64 0, .int .i64 0]), (15, .slice (some ⟨0, 0, none⟩) 4 0), (16, .int .i64 2), (17, .int .i64 1), (18, .pointer (some ⟨0, 2, none⟩)), (19, .agg #[.int .i64 2, .int .i64 0]), (20, .slice (some ⟨0, 0, none⟩) 4 0), (21, .int .i64 2), (22, .pointer (some ⟨0, 4, none⟩)), (23, .agg #[.int .i64 2, .int .i64 2]), (24, .int .i64 4), (25, .int .i64 4)] [(0, ⟨[.int .i64 0, .int .i64 0, .int .i64 2, .int .i64 0, .int .i64 2, .int .i64 2, .int .i64 0, .int .i64 2], 27, true, 2⟩)] ?_
  refine aw_tr 954 ?_
  refine aw_sk ?_
  refine then_normal ?_
  refine aw_sq 478 479 ?_
  refine aw_bl 1 957 ?_
  refine aw_d1 (
    .a 13 1 <| .p (does_c (au_84)) <| .a 2 1 <| .nil _ _) ?_
  refine block_normal ?_
  refine then_normal ?_
  refine aw_p1 (
    .a 3 1 <| .nil _ _) ?_
  refine then_normal ?_
  refine al_round ?_
  refine aw_sq 238 239 ?_
  refine aw_p 477 (
    .a 4 1 <| .nil _ _) ?_
  refine aw_fl 955 ?_
  refine aw_ex 0 ?_
  refine then_exit ?_
  refine then_exit ?_
  refine block_exit ?_
  refine then_normal ?_
  refine aw_p 31 (
    .a 2 1 <| .nil _ _) ?_
  refine aw_w [(0, .slice (some ⟨0, 0, none⟩) 4 0), (2, .int .i64 8), (3, .int .i64 8), (4, .int .i64 4), (5, .int .i64 4), (6, .slice (some ⟨0, 0, none⟩) 4 0), (7, .int .i64 4), (8, .bool false), (9, .int .i64 3), (10, .int .i64 4), (11, .int .i64 4), (12, .slice (some ⟨0, 0, none⟩) 4 0), (13, .pointer (some ⟨0, 0, none⟩)), (14, .agg #[.int .i64 0, .int .i64 0]), (15, .slice (some ⟨0, 0, none⟩) 4 0), (16, .int .i64 3), (17, .int .i64 2), (18, .pointer (some ⟨0, 4, none⟩)), (19, .agg #[.int .i64 2, .int .i64 2]), (20, .slice (some ⟨0, 0, none⟩) 4 0), (21, .int .i64 3), (22, .pointer (some ⟨0, 6, none⟩)), (23, .agg #[.int .i64 0, .int .i64 2]), (24, .int .i64 4), (25, .int .i64 8)] [(0, ⟨[.int .i64 0, .int .i64 0, .int .i64 2, .int .i64 0, .int .i64 2, .int .i64 2, .int .i64 0, .int .i64 2], 27, true, 2⟩)] ?_
  refine aw_rt ?_
  exact en_ret [.int .i64 8] (by kernel_rfl)

theorem au_86  :
    AC Tryz.prog 42 0 ([.agg #[.int .i64 0, .int .i64 0], .agg #[.int .i64 2, .int .i64 0], .agg #[.int .i64 1, .int .i64 1]]) [] (.int .i64 2) [] := by
  refine ac_in Tryz.func42 (fun w0 W pin => ?_)
  refine aw_p 3 (
    .a 4 1 <| .nil _ _) ?_
  refine aw_d 7 (
    .a 2 4 <| .p (does_c (au_78)) <| .a 2 4 <| .p (does_c (au_14)) <| .a 4 4 <| .nil _ _) ?_
  refine aw_p 15 (
    .a 12 6 <| .nil _ _) ?_
  refine aw_w [(0, .agg #[.int .i64 0, .int .i64 0]), (1, .agg #[.int .i64 2, .int .i64 0]), (2, .agg #[.int .i64 1, .int .i64 1]), (3, .pointer (some ⟨1, 0, none⟩)), (4, .pointer (some ⟨2, 0, none⟩)), (5, .pointer (some ⟨3, 0, none⟩)), (6, .int .i64 2), (7, .pointer (some ⟨4, 0, none⟩)), (8, .pointer (some ⟨5, 0, none⟩)), (9, .agg #[.int .i64 0, .int .i64 0]), (10, .agg #[.int .i64 2, .int .i64 0]), (11, .agg #[.int .i64 2, .int .i64 0]), (12, .agg #[.int .i64 0, .int .i64 0]), (13, .agg #[.int .i64 1, .int .i64 1]), (14, .agg #[.int .i64 1, .int .i64 1])] [(1, ⟨[.int .i64 0, .int .i64 0], 27, true, 2⟩), (2, ⟨[.int .i64 2, .int .i64 0], 27, true, 2⟩), (3, ⟨[.int .i64 1, .int .i64 1], 27, true, 2⟩), (4, ⟨[.int .i64 2, .int .i64 0], 27, true, 2⟩), (5, ⟨[.int .i64 1, .int .i64 1], 27, true, 2⟩)] ?_
  refine aw_rt ?_
  exact en_ret [.int .i64 2] (by kernel_rfl)

theorem au_87  :
    AC Tryz.prog 88 0 ([.int .i64 2]) [] (.bool false) [] := by
  refine ac_in Tryz.func88 (fun w0 W pin => ?_)
  refine aw_p 3 (
    .a 1 1 <| .nil _ _) ?_
  refine aw_p 7 (
    .a 4 1 <| .nil _ _) ?_
  refine aw_rt ?_
  exact en_ret [.bool false] (by kernel_rfl)

theorem au_88  :
    AC Tryz.prog 75 0 ([.int .i64 2, .int .i64 0]) [] (.int .i64 1) [] := by
  refine ac_in Tryz.func75 (fun w0 W pin => ?_)
  refine aw_p 3 (
    .a 1 1 <| .nil _ _) ?_
  refine aw_p 7 (
    .a 1 1 <| .p (does_c (au_87)) <| .a 1 1 <| .nil _ _) ?_
  refine aw_p 15 (
    .a 1 1 <| .p (does_c (au_18)) <| .a 1 1 <| .nil _ _) ?_
  refine aw_sq 30 31 ?_
  refine aw_p 61 (
    .a 1 1 <| .nil _ _) ?_
  refine aw_fl 123 ?_
  refine aw_sk ?_
  refine then_normal ?_
  refine aw_sq 62 63 ?_
  refine aw_p 125 (
    .a 1 1 <| .nil _ _) ?_
  refine aw_fl 251 ?_
  refine aw_sk ?_
  refine then_normal ?_
  refine aw_sq 126 127 ?_
  refine aw_p 253 (
    .a 3 1 <| .nil _ _) ?_
  refine aw_fl 507 ?_
  refine aw_sk ?_
  refine then_normal ?_
  refine aw_sq 254 255 ?_
  refine aw_p 509 (
    .a 3 1 <| .nil _ _) ?_
  refine aw_tr 1018 ?_
  refine aw_p 2037 (
    .a 1 1 <| .nil _ _) ?_
  refine aw_rt ?_
  refine then_ret ?_
  exact en_ret [.int .i64 1] (by kernel_rfl)

theorem au_89  :
    AC Tryz.prog 45 0 ([.agg #[.int .i64 0, .int .i64 0], .agg #[.int .i64 2, .int .i64 0], .agg #[.int .i64 1, .int .i64 1]]) [] (.int .i64 1) [] := by
  refine ac_in Tryz.func45 (fun w0 W pin => ?_)
  refine aw_p 3 (
    .a 4 1 <| .nil _ _) ?_
  refine aw_p 7 (
    .a 3 4 <| .p (does_c (au_86)) <| .p (does_c (au_88)) <| .a 1 4 <| .nil _ _) ?_
  refine aw_rt ?_
  exact en_ret [.int .i64 1] (by kernel_rfl)

theorem au_90  :
    AC Tryz.prog 44 0 ([.agg #[.int .i64 0, .int .i64 0], .agg #[.int .i64 2, .int .i64 0], .agg #[.int .i64 1, .int .i64 1]]) [] (.bool false) [] := by
  refine ac_in Tryz.func44 (fun w0 W pin => ?_)
  refine aw_p 3 (
    .a 4 1 <| .nil _ _) ?_
  refine aw_p 7 (
    .a 3 4 <| .p (does_c (au_89)) <| .a 9 4 <| .nil _ _) ?_
  refine aw_rt ?_
  exact en_ret [.bool false] (by kernel_rfl)

theorem au_91  :
    AC Tryz.prog 71 0 ([.agg #[.int .i64 2, .int .i64 0], .agg #[.int .i64 2, .int .i64 2]]) [] (.agg #[.int .i64 0, .int .i64 2]) [] := by
  refine ac_in Tryz.func71 (fun w0 W pin => ?_)
  refine aw_p 3 (
    .a 3 1 <| .nil _ _) ?_
  refine aw_d 7 (
    .a 1 4 <| .p (does_c (au_77)) <| .a 1 4 <| .p (does_c (au_79)) <| .a 2 4 <| .nil _ _) ?_
  refine aw_p 15 (
    .a 12 4 <| .nil _ _) ?_
  refine aw_rt ?_
  exact en_ret [.agg #[.int .i64 0, .int .i64 2]] (by kernel_rfl)

theorem au_92  :
    AC Tryz.prog 71 0 ([.agg #[.int .i64 2, .int .i64 0], .agg #[.int .i64 1, .int .i64 1]]) [] (.agg #[.int .i64 (-1), .int .i64 1]) [] := by
  refine ac_in Tryz.func71 (fun w0 W pin => ?_)
  refine aw_p 3 (
    .a 3 1 <| .nil _ _) ?_
  refine aw_d 7 (
    .a 1 4 <| .p (does_c (au_77)) <| .a 1 4 <| .p (does_c (au_11)) <| .a 2 4 <| .nil _ _) ?_
  refine aw_p 15 (
    .a 12 4 <| .nil _ _) ?_
  refine aw_rt ?_
  exact en_ret [.agg #[.int .i64 (-1), .int .i64 1]] (by kernel_rfl)

theorem au_93  :
    AC Tryz.prog 42 0 ([.agg #[.int .i64 2, .int .i64 0], .agg #[.int .i64 2, .int .i64 2], .agg #[.int .i64 1, .int .i64 1]]) [] (.int .i64 2) [] := by
  refine ac_in Tryz.func42 (fun w0 W pin => ?_)
  refine aw_p 3 (
    .a 4 1 <| .nil _ _) ?_
  refine aw_d 7 (
    .a 2 4 <| .p (does_c (au_91)) <| .a 2 4 <| .p (does_c (au_92)) <| .a 4 4 <| .nil _ _) ?_
  refine aw_p 15 (
    .a 12 6 <| .nil _ _) ?_
  refine aw_w [(0, .agg #[.int .i64 2, .int .i64 0]), (1, .agg #[.int .i64 2, .int .i64 2]), (2, .agg #[.int .i64 1, .int .i64 1]), (3, .pointer (some ⟨1, 0, none⟩)), (4, .pointer (some ⟨2, 0, none⟩)), (5, .pointer (some ⟨3, 0, none⟩)), (6, .int .i64 2), (7, .pointer (some ⟨4, 0, none⟩)), (8, .pointer (some ⟨5, 0, none⟩)), (9, .agg #[.int .i64 2, .int .i64 0]), (10, .agg #[.int .i64 2, .int .i64 2]), (11, .agg #[.int .i64 0, .int .i64 2]), (12, .agg #[.int .i64 2, .int .i64 0]), (13, .agg #[.int .i64 1, .int .i64 1]), (14, .agg #[.int .i64 (-1), .int .i64 1])] [(1, ⟨[.int .i64 2, .int .i64 0], 27, true, 2⟩), (2, ⟨[.int .i64 2, .int .i64 2], 27, true, 2⟩), (3, ⟨[.int .i64 1, .int .i64 1], 27, true, 2⟩), (4, ⟨[.int .i64 0, .int .i64 2], 27, true, 2⟩), (5, ⟨[.int .i64 (-1), .int .i64 1], 27, true, 2⟩)] ?_
  refine aw_rt ?_
  exact en_ret [.int .i64 2] (by kernel_rfl)

theorem au_94  :
    AC Tryz.prog 45 0 ([.agg #[.int .i64 2, .int .i64 0], .agg #[.int .i64 2, .int .i64 2], .agg #[.int .i64 1, .int .i64 1]]) [] (.int .i64 1) [] := by
  refine ac_in Tryz.func45 (fun w0 W pin => ?_)
  refine aw_p 3 (
    .a 4 1 <| .nil _ _) ?_
  refine aw_p 7 (
    .a 3 4 <| .p (does_c (au_93)) <| .p (does_c (au_88)) <| .a 1 4 <| .nil _ _) ?_
  refine aw_rt ?_
  exact en_ret [.int .i64 1] (by kernel_rfl)

theorem au_95  :
    AC Tryz.prog 44 0 ([.agg #[.int .i64 2, .int .i64 0], .agg #[.int .i64 2, .int .i64 2], .agg #[.int .i64 1, .int .i64 1]]) [] (.bool false) [] := by
  refine ac_in Tryz.func44 (fun w0 W pin => ?_)
  refine aw_p 3 (
    .a 4 1 <| .nil _ _) ?_
  refine aw_p 7 (
    .a 3 4 <| .p (does_c (au_94)) <| .a 9 4 <| .nil _ _) ?_
  refine aw_rt ?_
  exact en_ret [.bool false] (by kernel_rfl)

theorem au_96  :
    AC Tryz.prog 71 0 ([.agg #[.int .i64 2, .int .i64 2], .agg #[.int .i64 0, .int .i64 2]]) [] (.agg #[.int .i64 (-2), .int .i64 0]) [] := by
  refine ac_in Tryz.func71 (fun w0 W pin => ?_)
  refine aw_p 3 (
    .a 3 1 <| .nil _ _) ?_
  refine aw_d 7 (
    .a 1 4 <| .p (does_c (au_79)) <| .a 1 4 <| .p (does_c (au_82)) <| .a 2 4 <| .nil _ _) ?_
  refine aw_p 15 (
    .a 12 4 <| .nil _ _) ?_
  refine aw_rt ?_
  exact en_ret [.agg #[.int .i64 (-2), .int .i64 0]] (by kernel_rfl)

theorem au_97  :
    AC Tryz.prog 71 0 ([.agg #[.int .i64 2, .int .i64 2], .agg #[.int .i64 1, .int .i64 1]]) [] (.agg #[.int .i64 (-1), .int .i64 (-1)]) [] := by
  refine ac_in Tryz.func71 (fun w0 W pin => ?_)
  refine aw_p 3 (
    .a 3 1 <| .nil _ _) ?_
  refine aw_d 7 (
    .a 1 4 <| .p (does_c (au_79)) <| .a 1 4 <| .p (does_c (au_11)) <| .a 2 4 <| .nil _ _) ?_
  refine aw_p 15 (
    .a 12 4 <| .nil _ _) ?_
  refine aw_rt ?_
  exact en_ret [.agg #[.int .i64 (-1), .int .i64 (-1)]] (by kernel_rfl)

theorem au_98  :
    AC Tryz.prog 42 0 ([.agg #[.int .i64 2, .int .i64 2], .agg #[.int .i64 0, .int .i64 2], .agg #[.int .i64 1, .int .i64 1]]) [] (.int .i64 2) [] := by
  refine ac_in Tryz.func42 (fun w0 W pin => ?_)
  refine aw_p 3 (
    .a 4 1 <| .nil _ _) ?_
  refine aw_d 7 (
    .a 2 4 <| .p (does_c (au_96)) <| .a 2 4 <| .p (does_c (au_97)) <| .a 4 4 <| .nil _ _) ?_
  refine aw_p 15 (
    .a 12 6 <| .nil _ _) ?_
  refine aw_w [(0, .agg #[.int .i64 2, .int .i64 2]), (1, .agg #[.int .i64 0, .int .i64 2]), (2, .agg #[.int .i64 1, .int .i64 1]), (3, .pointer (some ⟨1, 0, none⟩)), (4, .pointer (some ⟨2, 0, none⟩)), (5, .pointer (some ⟨3, 0, none⟩)), (6, .int .i64 2), (7, .pointer (some ⟨4, 0, none⟩)), (8, .pointer (some ⟨5, 0, none⟩)), (9, .agg #[.int .i64 2, .int .i64 2]), (10, .agg #[.int .i64 0, .int .i64 2]), (11, .agg #[.int .i64 (-2), .int .i64 0]), (12, .agg #[.int .i64 2, .int .i64 2]), (13, .agg #[.int .i64 1, .int .i64 1]), (14, .agg #[.int .i64 (-1), .int .i64 (-1)])] [(1, ⟨[.int .i64 2, .int .i64 2], 27, true, 2⟩), (2, ⟨[.int .i64 0, .int .i64 2], 27, true, 2⟩), (3, ⟨[.int .i64 1, .int .i64 1], 27, true, 2⟩), (4, ⟨[.int .i64 (-2), .int .i64 0], 27, true, 2⟩), (5, ⟨[.int .i64 (-1), .int .i64 (-1)], 27, true, 2⟩)] ?_
  refine aw_rt ?_
  exact en_ret [.int .i64 2] (by kernel_rfl)

theorem au_99  :
    AC Tryz.prog 45 0 ([.agg #[.int .i64 2, .int .i64 2], .agg #[.int .i64 0, .int .i64 2], .agg #[.int .i64 1, .int .i64 1]]) [] (.int .i64 1) [] := by
  refine ac_in Tryz.func45 (fun w0 W pin => ?_)
  refine aw_p 3 (
    .a 4 1 <| .nil _ _) ?_
  refine aw_p 7 (
    .a 3 4 <| .p (does_c (au_98)) <| .p (does_c (au_88)) <| .a 1 4 <| .nil _ _) ?_
  refine aw_rt ?_
  exact en_ret [.int .i64 1] (by kernel_rfl)

theorem au_100  :
    AC Tryz.prog 44 0 ([.agg #[.int .i64 2, .int .i64 2], .agg #[.int .i64 0, .int .i64 2], .agg #[.int .i64 1, .int .i64 1]]) [] (.bool false) [] := by
  refine ac_in Tryz.func44 (fun w0 W pin => ?_)
  refine aw_p 3 (
    .a 4 1 <| .nil _ _) ?_
  refine aw_p 7 (
    .a 3 4 <| .p (does_c (au_99)) <| .a 9 4 <| .nil _ _) ?_
  refine aw_rt ?_
  exact en_ret [.bool false] (by kernel_rfl)

theorem au_101  :
    AC Tryz.prog 71 0 ([.agg #[.int .i64 0, .int .i64 2], .agg #[.int .i64 0, .int .i64 0]]) [] (.agg #[.int .i64 0, .int .i64 (-2)]) [] := by
  refine ac_in Tryz.func71 (fun w0 W pin => ?_)
  refine aw_p 3 (
    .a 3 1 <| .nil _ _) ?_
  refine aw_d 7 (
    .a 1 4 <| .p (does_c (au_82)) <| .a 1 4 <| .p (does_c (au_9)) <| .a 2 4 <| .nil _ _) ?_
  refine aw_p 15 (
    .a 12 4 <| .nil _ _) ?_
  refine aw_rt ?_
  exact en_ret [.agg #[.int .i64 0, .int .i64 (-2)]] (by kernel_rfl)

theorem au_102  :
    AC Tryz.prog 71 0 ([.agg #[.int .i64 0, .int .i64 2], .agg #[.int .i64 1, .int .i64 1]]) [] (.agg #[.int .i64 1, .int .i64 (-1)]) [] := by
  refine ac_in Tryz.func71 (fun w0 W pin => ?_)
  refine aw_p 3 (
    .a 3 1 <| .nil _ _) ?_
  refine aw_d 7 (
    .a 1 4 <| .p (does_c (au_82)) <| .a 1 4 <| .p (does_c (au_11)) <| .a 2 4 <| .nil _ _) ?_
  refine aw_p 15 (
    .a 12 4 <| .nil _ _) ?_
  refine aw_rt ?_
  exact en_ret [.agg #[.int .i64 1, .int .i64 (-1)]] (by kernel_rfl)

theorem au_103  :
    AC Tryz.prog 42 0 ([.agg #[.int .i64 0, .int .i64 2], .agg #[.int .i64 0, .int .i64 0], .agg #[.int .i64 1, .int .i64 1]]) [] (.int .i64 2) [] := by
  refine ac_in Tryz.func42 (fun w0 W pin => ?_)
  refine aw_p 3 (
    .a 4 1 <| .nil _ _) ?_
  refine aw_d 7 (
    .a 2 4 <| .p (does_c (au_101)) <| .a 2 4 <| .p (does_c (au_102)) <| .a 4 4 <| .nil _ _) ?_
  refine aw_p 15 (
    .a 12 6 <| .nil _ _) ?_
  refine aw_w [(0, .agg #[.int .i64 0, .int .i64 2]), (1, .agg #[.int .i64 0, .int .i64 0]), (2, .agg #[.int .i64 1, .int .i64 1]), (3, .pointer (some ⟨1, 0, none⟩)), (4, .pointer (some ⟨2, 0, none⟩)), (5, .pointer (some ⟨3, 0, none⟩)), (6, .int .i64 2), (7, .pointer (some ⟨4, 0, none⟩)), (8, .pointer (some ⟨5, 0, none⟩)), (9, .agg #[.int .i64 0, .int .i64 2]), (10, .agg #[.int .i64 0, .int .i64 0]), (11, .agg #[.int .i64 0, .int .i64 (-2)]), (12, .agg #[.int .i64 0, .int .i64 2]), (13, .agg #[.int .i64 1, .int .i64 1]), (14, .agg #[.int .i64 1, .int .i64 (-1)])] [(1, ⟨[.int .i64 0, .int .i64 2], 27, true, 2⟩), (2, ⟨[.int .i64 0, .int .i64 0], 27, true, 2⟩), (3, ⟨[.int .i64 1, .int .i64 1], 27, true, 2⟩), (4, ⟨[.int .i64 0, .int .i64 (-2)], 27, true, 2⟩), (5, ⟨[.int .i64 1, .int .i64 (-1)], 27, true, 2⟩)] ?_
  refine aw_rt ?_
  exact en_ret [.int .i64 2] (by kernel_rfl)

theorem au_104  :
    AC Tryz.prog 45 0 ([.agg #[.int .i64 0, .int .i64 2], .agg #[.int .i64 0, .int .i64 0], .agg #[.int .i64 1, .int .i64 1]]) [] (.int .i64 1) [] := by
  refine ac_in Tryz.func45 (fun w0 W pin => ?_)
  refine aw_p 3 (
    .a 4 1 <| .nil _ _) ?_
  refine aw_p 7 (
    .a 3 4 <| .p (does_c (au_103)) <| .p (does_c (au_88)) <| .a 1 4 <| .nil _ _) ?_
  refine aw_rt ?_
  exact en_ret [.int .i64 1] (by kernel_rfl)

theorem au_105  :
    AC Tryz.prog 44 0 ([.agg #[.int .i64 0, .int .i64 2], .agg #[.int .i64 0, .int .i64 0], .agg #[.int .i64 1, .int .i64 1]]) [] (.bool false) [] := by
  refine ac_in Tryz.func44 (fun w0 W pin => ?_)
  refine aw_p 3 (
    .a 4 1 <| .nil _ _) ?_
  refine aw_p 7 (
    .a 3 4 <| .p (does_c (au_104)) <| .a 9 4 <| .nil _ _) ?_
  refine aw_rt ?_
  exact en_ret [.bool false] (by kernel_rfl)

theorem au_106  :
    AC Tryz.prog 42 0 ([.agg #[.int .i64 0, .int .i64 0], .agg #[.int .i64 0, .int .i64 2], .agg #[.int .i64 1, .int .i64 1]]) [] (.int .i64 (-2)) [] := by
  refine ac_in Tryz.func42 (fun w0 W pin => ?_)
  refine aw_p 3 (
    .a 4 1 <| .nil _ _) ?_
  refine aw_d 7 (
    .a 2 4 <| .p (does_c (au_83)) <| .a 2 4 <| .p (does_c (au_14)) <| .a 4 4 <| .nil _ _) ?_
  refine aw_p 15 (
    .a 12 6 <| .nil _ _) ?_
  refine aw_w [(0, .agg #[.int .i64 0, .int .i64 0]), (1, .agg #[.int .i64 0, .int .i64 2]), (2, .agg #[.int .i64 1, .int .i64 1]), (3, .pointer (some ⟨1, 0, none⟩)), (4, .pointer (some ⟨2, 0, none⟩)), (5, .pointer (some ⟨3, 0, none⟩)), (6, .int .i64 (-2)), (7, .pointer (some ⟨4, 0, none⟩)), (8, .pointer (some ⟨5, 0, none⟩)), (9, .agg #[.int .i64 0, .int .i64 0]), (10, .agg #[.int .i64 0, .int .i64 2]), (11, .agg #[.int .i64 0, .int .i64 2]), (12, .agg #[.int .i64 0, .int .i64 0]), (13, .agg #[.int .i64 1, .int .i64 1]), (14, .agg #[.int .i64 1, .int .i64 1])] [(1, ⟨[.int .i64 0, .int .i64 0], 27, true, 2⟩), (2, ⟨[.int .i64 0, .int .i64 2], 27, true, 2⟩), (3, ⟨[.int .i64 1, .int .i64 1], 27, true, 2⟩), (4, ⟨[.int .i64 0, .int .i64 2], 27, true, 2⟩), (5, ⟨[.int .i64 1, .int .i64 1], 27, true, 2⟩)] ?_
  refine aw_rt ?_
  exact en_ret [.int .i64 (-2)] (by kernel_rfl)

theorem au_107  :
    AC Tryz.prog 88 0 ([.int .i64 (-2)]) [] (.bool false) [] := by
  refine ac_in Tryz.func88 (fun w0 W pin => ?_)
  refine aw_p 3 (
    .a 1 1 <| .nil _ _) ?_
  refine aw_p 7 (
    .a 4 1 <| .nil _ _) ?_
  refine aw_rt ?_
  exact en_ret [.bool false] (by kernel_rfl)

theorem au_108  :
    AC Tryz.prog 75 0 ([.int .i64 (-2), .int .i64 0]) [] (.int .i64 (-1)) [] := by
  refine ac_in Tryz.func75 (fun w0 W pin => ?_)
  refine aw_p 3 (
    .a 1 1 <| .nil _ _) ?_
  refine aw_p 7 (
    .a 1 1 <| .p (does_c (au_107)) <| .a 1 1 <| .nil _ _) ?_
  refine aw_p 15 (
    .a 1 1 <| .p (does_c (au_18)) <| .a 1 1 <| .nil _ _) ?_
  refine aw_sq 30 31 ?_
  refine aw_p 61 (
    .a 1 1 <| .nil _ _) ?_
  refine aw_fl 123 ?_
  refine aw_sk ?_
  refine then_normal ?_
  refine aw_sq 62 63 ?_
  refine aw_p 125 (
    .a 1 1 <| .nil _ _) ?_
  refine aw_fl 251 ?_
  refine aw_sk ?_
  refine then_normal ?_
  refine aw_sq 126 127 ?_
  refine aw_p 253 (
    .a 3 1 <| .nil _ _) ?_
  refine aw_tr 506 ?_
  refine aw_p 1013 (
    .a 1 1 <| .nil _ _) ?_
  refine aw_rt ?_
  refine then_ret ?_
  exact en_ret [.int .i64 (-1)] (by kernel_rfl)

theorem au_109  :
    AC Tryz.prog 45 0 ([.agg #[.int .i64 0, .int .i64 0], .agg #[.int .i64 0, .int .i64 2], .agg #[.int .i64 1, .int .i64 1]]) [] (.int .i64 (-1)) [] := by
  refine ac_in Tryz.func45 (fun w0 W pin => ?_)
  refine aw_p 3 (
    .a 4 1 <| .nil _ _) ?_
  refine aw_p 7 (
    .a 3 4 <| .p (does_c (au_106)) <| .p (does_c (au_108)) <| .a 1 4 <| .nil _ _) ?_
  refine aw_rt ?_
  exact en_ret [.int .i64 (-1)] (by kernel_rfl)

theorem au_110  :
    AC Tryz.prog 15 1 ([.slice (some ⟨0, 0, none⟩) 4 0, .agg #[.int .i64 1, .int .i64 1]]) [(0, ⟨[.int .i64 0, .int .i64 0, .int .i64 2, .int .i64 0, .int .i64 2, .int .i64 2, .int .i64 0, .int .i64 2], 27, true, 2⟩)] (.int .i64 1) [(0, ⟨[.int .i64 0, .int .i64 0, .int .i64 2, .int .i64 0, .int .i64 2, .int .i64 2, .int .i64 0, .int .i64 2], 27, true, 2⟩)] := by
  refine ac_in Tryz.func15 (fun w0 W pin => ?_)
  refine aw_p 3 (
    .a 2 1 <| .nil _ _) ?_
  refine aw_p 7 (
    .a 1 2 <| .p (does_c (au_11)) <| .a 1 2 <| .nil _ _) ?_
  refine aw_p 15 (
    .a 1 2 <| .nil _ _) ?_
  refine aw_sq 30 31 ?_
  refine aw_p 61 (
    .a 3 2 <| .nil _ _) ?_
  refine aw_bl 0 123 ?_
  refine aw_lp 247 ?_
  refine al_round ?_
  refine aw_p 495 (
    .a 1 2 <| .nil _ _) ?_
  refine aw_sq 990 991 ?_
  refine aw_tr 1980 ?_
  refine aw_sk ?_
  refine then_normal ?_
  refine aw_sq 1982 1983 ?_
  refine aw_bl 1 3965 ?_
  refine aw_p 7931 (
    .a 2 2 <| .nil _ _) ?_
  refine aw_d 15863 (
    .a 4 2 <| .p (does_c (au_9)) <| .a 8 2 <| .p (does_c (au_77)) <| .a 4 2 <| .nil _ _) ?_
  refine aw_w [(0, .slice (some ⟨0, 0, none⟩) 4 0), (1, .agg #[.int .i64 1, .int .i64 1]), (3, .pointer (some ⟨1, 0, none⟩)), (4, .int .i64 0), (5, .int .i64 (-1)), (6, .int .i64 0), (7, .pointer (some ⟨2, 0, none⟩)), (8, .pointer (some ⟨3, 0, none⟩)), (9, .agg #[.int .i64 1, .int .i64 1]), (10, .agg #[.int .i64 1, .int .i64 1]), (11, .slice (some ⟨0, 0, none⟩) 4 0), (12, .int .i64 4), (13, .int .i64 0), (14, .bool true), (15, .int .i64 0), (16, .slice (some ⟨0, 0, none⟩) 4 0), (17, .int .i64 0), (18, .pointer (some ⟨0, 0, none⟩)), (19, .agg #[.int .i64 0, .int .i64 0]), (20, .agg #[.int .i64 0, .int .i64 0]), (21, .slice (some ⟨0, 0, none⟩) 4 0), (22, .int .i64 0), (23, .int .i64 1), (24, .slice (some ⟨0, 0, none⟩) 4 0), (25, .int .i64 4), (26, .int .i64 1), (27, .pointer (some ⟨0, 2, none⟩)), (28, .agg #[.int .i64 2, .int .i64 0]), (29, .agg #[.int .i64 2, .int .i64 0])] [(0, ⟨[.int .i64 0, .int .i64 0, .int .i64 2, .int .i64 0, .int .i64 2, .int .i64 2, .int .i64 0, .int .i64 2], 27, true, 2⟩), (1, ⟨[.int .i64 1, .int .i64 1], 27, true, 2⟩), (2, ⟨[.int .i64 0, .int .i64 0], 27, true, 2⟩), (3, ⟨[.int .i64 2, .int .i64 0], 27, true, 2⟩)] ?_
  refine aw_sq 31726 31727 ?_
  refine aw_p 63453 (
    .a 3 4 <| .p (does_c (au_90)) <| .nil _ _) ?_
  refine aw_fl 126907 ?_
  refine aw_sk ?_
  refine then_normal ?_
  refine aw_sq 63454 63455 ?_
  refine aw_p 126909 (
    .a 5 4 <| .nil _ _) ?_
  refine aw_fl 253819 ?_
  refine aw_sk ?_
  refine then_normal ?_
  refine aw_p 126911 (
    .a 19 4 <| .nil _ _) ?_
  refine aw_w [(0, .slice (some ⟨0, 0, none⟩) 4 0), (1, .agg #[.int .i64 1, .int .i64 1]), (3, .pointer (some ⟨1, 0, none⟩)), (4, .int .i64 0), (5, .int .i64 (-1)), (6, .int .i64 0), (7, .pointer (some ⟨2, 0, none⟩)), (8, .pointer (some ⟨3, 0, none⟩)), (9, .agg #[.int .i64 1, .int .i64 1]), (10, .agg #[.int .i64 1, .int .i64 1]), (11, .slice (some ⟨0, 0, none⟩) 4 0), (12, .int .i64 4), (13, .int .i64 0), (14, .bool true), (15, .int .i64 0), (16, .slice (some ⟨0, 0, none⟩) 4 0), (17, .int .i64 0), (18, .pointer (some ⟨0, 0, none⟩)), (19, .agg #[.int .i64 0, .int .i64 0]), (20, .agg #[.int .i64 0, .int .i64 0]), (21, .slice (some ⟨0, 0, none⟩) 4 0), (22, .int .i64 0), (23, .int .i64 1), (24, .slice (some ⟨0, 0, none⟩) 4 0), (25, .int .i64 4), (26, .int .i64 1), (27, .pointer (some ⟨0, 2, none⟩)), (28, .agg #[.int .i64 2, .int .i64 0]), (29, .agg #[.int .i64 2, .int .i64 0]), (30, .agg #[.int .i64 0, .int .i64 0]), (31, .agg #[.int .i64 2, .int .i64 0]), (32, .agg #[.int .i64 1, .int .i64 1]), (33, .bool false), (34, .pointer (some ⟨2, 1, none⟩)), (35, .int .i64 0), (36, .pointer (some ⟨3, 1, none⟩)), (37, .int .i64 0), (38, .bool false), (41, .pointer (some ⟨2, 1, none⟩)), (42, .int .i64 0), (43, .pointer (some ⟨1, 1, none⟩)), (44, .int .i64 1), (45, .bool true), (46, .bool true), (47, .pointer (some ⟨1, 1, none⟩)), (48, .int .i64 1), (49, .pointer (some ⟨3, 1, none⟩)), (50, .int .i64 0), (51, .bool false), (52, .bool false), (53, .bool false), (59, .bool false)] [(0, ⟨[.int .i64 0, .int .i64 0, .int .i64 2, .int .i64 0, .int .i64 2, .int .i64 2, .int .i64 0, .int .i64 2], 27, true, 2⟩), (1, ⟨[.int .i64 1, .int .i64 1], 27, true, 2⟩), (2, ⟨[.int .i64 0, .int .i64 0], 27, true, 2⟩), (3, ⟨[.int .i64 2, .int .i64 0], 27, true, 2⟩)] ?_
  refine aw_fl 253823 ?_
  refine aw_sk ?_
  refine block_normal ?_
  refine then_normal ?_
  refine aw_p1 (
    .a 2 4 <| .nil _ _) ?_
  refine then_normal ?_
  refine al_round ?_
  refine aw_p 495 (
    .a 1 4 <| .nil _ _) ?_
  refine aw_sq 990 991 ?_
  refine aw_tr 1980 ?_
  refine aw_sk ?_
  refine then_normal ?_
  refine aw_sq 1982 1983 ?_
  refine aw_bl 1 3965 ?_
  refine aw_p 7931 (
    .a 2 4 <| .nil _ _) ?_
  refine aw_d 15863 (
    .a 4 4 <| .p (does_c (au_77)) <| .a 8 4 <| .p (does_c (au_79)) <| .a 4 4 <| .nil _ _) ?_
  refine aw_sq 31726 31727 ?_
  refine aw_p 63453 (
    .a 3 6 <| .p (does_c (au_95)) <| .nil _ _) ?_
  refine aw_w [(0, .slice (some ⟨0, 0, none⟩) 4 0), (1, .agg #[.int .i64 1, .int .i64 1]), (3, .pointer (some ⟨1, 0, none⟩)), (4, .int .i64 0), (5, .int .i64 (-1)), (6, .int .i64 1), (7, .pointer (some ⟨4, 0, none⟩)), (8, .pointer (some ⟨5, 0, none⟩)), (9, .agg #[.int .i64 1, .int .i64 1]), (10, .agg #[.int .i64 1, .int .i64 1]), (11, .slice (some ⟨0, 0, none⟩) 4 0), (12, .int .i64 4), (13, .int .i64 1), (14, .bool true), (15, .int .i64 1), (16, .slice (some ⟨0, 0, none⟩) 4 0), (17, .int .i64 1), (18, .pointer (some ⟨0, 2, none⟩)), (19, .agg #[.int .i64 2, .int .i64 0]), (20, .agg #[.int .i64 2, .int .i64 0]), (21, .slice (some ⟨0, 0, none⟩) 4 0), (22, .int .i64 1), (23, .int .i64 2), (24, .slice (some ⟨0, 0, none⟩) 4 0), (25, .int .i64 4), (26, .int .i64 2), (27, .pointer (some ⟨0, 4, none⟩)), (28, .agg #[.int .i64 2, .int .i64 2]), (29, .agg #[.int .i64 2, .int .i64 2]), (30, .agg #[.int .i64 2, .int .i64 0]), (31, .agg #[.int .i64 2, .int .i64 2]), (32, .agg #[.int .i64 1, .int .i64 1]), (33, .bool false), (34, .pointer (some ⟨2, 1, none⟩)), (35, .int .i64 0), (36, .pointer (some ⟨3, 1, none⟩)), (37, .int .i64 0), (38, .bool false), (41, .pointer (some ⟨2, 1, none⟩)), (42, .int .i64 0), (43, .pointer (some ⟨1, 1, none⟩)), (44, .int .i64 1), (45, .bool true), (46, .bool true), (47, .pointer (some ⟨1, 1, none⟩)), (48, .int .i64 1), (49, .pointer (some ⟨3, 1, none⟩)), (50, .int .i64 0), (51, .bool false), (52, .bool false), (53, .bool false), (59, .bool false), (62, .int .i64 1)] [(0, ⟨[.int .i64 0, .int .i64 0, .int .i64 2, .int .i64 0, .int .i64 2, .int .i64 2, .int .i64 0, .int .i64 2], 27, true, 2⟩), (1, ⟨[.int .i64 1, .int .i64 1], 27, true, 2⟩), (2, ⟨[.int .i64 0, .int .i64 0], 27, true, 2⟩), (3, ⟨[.int .i64 2, .int .i64 0], 27, true, 2⟩), (4, ⟨[.int .i64 2, .int .i64 0], 27, true, 2⟩), (5, ⟨[.int .i64 2, .int .i64 2], 27, true, 2⟩)] ?_
  refine aw_fl 126907 ?_
  refine aw_sk ?_
  refine then_normal ?_
  refine aw_sq 63454 63455 ?_
  refine aw_p 126909 (
    .a 5 6 <| .nil _ _) ?_
  refine aw_fl 253819 ?_
  refine aw_sk ?_
  refine then_normal ?_
  refine aw_p 126911 (
    .a 16 6 <| .p (does_c (au_94)) <| .a 2 6 <| .nil _ _) ?_
  refine aw_tr 253822 ?_
  refine aw_p1 (
    .a 3 6 <| .nil _ _) ?_
  refine block_normal ?_
  refine then_normal ?_
  refine aw_p1 (
    .a 2 6 <| .nil _ _) ?_
  refine then_normal ?_
  refine al_round ?_
  refine aw_p 495 (
    .a 1 6 <| .nil _ _) ?_
  refine aw_w [(0, .slice (some ⟨0, 0, none⟩) 4 0), (1, .agg #[.int .i64 1, .int .i64 1]), (3, .pointer (some ⟨1, 0, none⟩)), (4, .int .i64 0), (5, .int .i64 1), (6, .int .i64 1), (7, .pointer (some ⟨4, 0, none⟩)), (8, .pointer (some ⟨5, 0, none⟩)), (9, .agg #[.int .i64 1, .int .i64 1]), (10, .agg #[.int .i64 1, .int .i64 1]), (11, .slice (some ⟨0, 0, none⟩) 4 0), (12, .int .i64 4), (13, .int .i64 2), (14, .bool true), (15, .int .i64 1), (16, .slice (some ⟨0, 0, none⟩) 4 0), (17, .int .i64 1), (18, .pointer (some ⟨0, 2, none⟩)), (19, .agg #[.int .i64 2, .int .i64 0]), (20, .agg #[.int .i64 2, .int .i64 0]), (21, .slice (some ⟨0, 0, none⟩) 4 0), (22, .int .i64 1), (23, .int .i64 2), (24, .slice (some ⟨0, 0, none⟩) 4 0), (25, .int .i64 4), (26, .int .i64 2), (27, .pointer (some ⟨0, 4, none⟩)), (28, .agg #[.int .i64 2, .int .i64 2]), (29, .agg #[.int .i64 2, .int .i64 2]), (30, .agg #[.int .i64 2, .int .i64 0]), (31, .agg #[.int .i64 2, .int .i64 2]), (32, .agg #[.int .i64 1, .int .i64 1]), (33, .bool false), (34, .pointer (some ⟨4, 1, none⟩)), (35, .int .i64 0), (36, .pointer (some ⟨5, 1, none⟩)), (37, .int .i64 2), (38, .bool false), (41, .pointer (some ⟨4, 1, none⟩)), (42, .int .i64 0), (43, .pointer (some ⟨1, 1, none⟩)), (44, .int .i64 1), (45, .bool true), (46, .bool true), (47, .pointer (some ⟨1, 1, none⟩)), (48, .int .i64 1), (49, .pointer (some ⟨5, 1, none⟩)), (50, .int .i64 2), (51, .bool true), (52, .bool true), (53, .bool true), (54, .agg #[.int .i64 2, .int .i64 0]), (55, .agg #[.int .i64 2, .int .i64 2]), (56, .agg #[.int .i64 1, .int .i64 1]), (57, .int .i64 1), (58, .bool true), (59, .bool true), (60, .int .i64 (-1)), (61, .int .i64 1), (62, .int .i64 2)] [(0, ⟨[.int .i64 0, .int .i64 0, .int .i64 2, .int .i64 0, .int .i64 2, .int .i64 2, .int .i64 0, .int .i64 2], 27, true, 2⟩), (1, ⟨[.int .i64 1, .int .i64 1], 27, true, 2⟩), (4, ⟨[.int .i64 2, .int .i64 0], 27, true, 2⟩), (5, ⟨[.int .i64 2, .int .i64 2], 27, true, 2⟩)] ?_
  refine aw_sq 990 991 ?_
  refine aw_tr 1980 ?_
  refine aw_sk ?_
  refine then_normal ?_
  refine aw_sq 1982 1983 ?_
  refine aw_bl 1 3965 ?_
  refine aw_p 7931 (
    .a 2 6 <| .nil _ _) ?_
  refine aw_d 15863 (
    .a 4 6 <| .p (does_c (au_79)) <| .a 8 6 <| .p (does_c (au_82)) <| .a 4 6 <| .nil _ _) ?_
  refine aw_sq 31726 31727 ?_
  refine aw_p 63453 (
    .a 3 8 <| .p (does_c (au_100)) <| .nil _ _) ?_
  refine aw_fl 126907 ?_
  refine aw_sk ?_
  refine then_normal ?_
  refine aw_sq 63454 63455 ?_
  refine aw_p 126909 (
    .a 5 8 <| .nil _ _) ?_
  refine aw_w [(0, .slice (some ⟨0, 0, none⟩) 4 0), (1, .agg #[.int .i64 1, .int .i64 1]), (3, .pointer (some ⟨1, 0, none⟩)), (4, .int .i64 0), (5, .int .i64 1), (6, .int .i64 2), (7, .pointer (some ⟨6, 0, none⟩)), (8, .pointer (some ⟨7, 0, none⟩)), (9, .agg #[.int .i64 1, .int .i64 1]), (10, .agg #[.int .i64 1, .int .i64 1]), (11, .slice (some ⟨0, 0, none⟩) 4 0), (12, .int .i64 4), (13, .int .i64 2), (14, .bool true), (15, .int .i64 2), (16, .slice (some ⟨0, 0, none⟩) 4 0), (17, .int .i64 2), (18, .pointer (some ⟨0, 4, none⟩)), (19, .agg #[.int .i64 2, .int .i64 2]), (20, .agg #[.int .i64 2, .int .i64 2]), (21, .slice (some ⟨0, 0, none⟩) 4 0), (22, .int .i64 2), (23, .int .i64 3), (24, .slice (some ⟨0, 0, none⟩) 4 0), (25, .int .i64 4), (26, .int .i64 3), (27, .pointer (some ⟨0, 6, none⟩)), (28, .agg #[.int .i64 0, .int .i64 2]), (29, .agg #[.int .i64 0, .int .i64 2]), (30, .agg #[.int .i64 2, .int .i64 2]), (31, .agg #[.int .i64 0, .int .i64 2]), (32, .agg #[.int .i64 1, .int .i64 1]), (33, .bool false), (34, .pointer (some ⟨6, 1, none⟩)), (35, .int .i64 2), (36, .pointer (some ⟨7, 1, none⟩)), (37, .int .i64 2), (38, .bool false), (41, .pointer (some ⟨4, 1, none⟩)), (42, .int .i64 0), (43, .pointer (some ⟨1, 1, none⟩)), (44, .int .i64 1), (45, .bool true), (46, .bool true), (47, .pointer (some ⟨1, 1, none⟩)), (48, .int .i64 1), (49, .pointer (some ⟨5, 1, none⟩)), (50, .int .i64 2), (51, .bool true), (52, .bool true), (53, .bool true), (54, .agg #[.int .i64 2, .int .i64 0]), (55, .agg #[.int .i64 2, .int .i64 2]), (56, .agg #[.int .i64 1, .int .i64 1]), (57, .int .i64 1), (58, .bool true), (59, .bool true), (60, .int .i64 (-1)), (61, .int .i64 1), (62, .int .i64 2)] [(0, ⟨[.int .i64 0, .int .i64 0, .int .i64 2, .int .i64 0, .int .i64 2, .int .i64 2, .int .i64 0, .int .i64 2], 27, true, 2⟩), (1, ⟨[.int .i64 1, .int .i64 1], 27, true, 2⟩), (4, ⟨[.int .i64 2, .int .i64 0], 27, true, 2⟩), (5, ⟨[.int .i64 2, .int .i64 2], 27, true, 2⟩), (6, ⟨[.int .i64 2, .int .i64 2], 27, true, 2⟩), (7, ⟨[.int .i64 0, .int .i64 2], 27, true, 2⟩)] ?_
  refine aw_fl 253819 ?_
  refine aw_sk ?_
  refine then_normal ?_
  refine aw_p 126911 (
    .a 19 8 <| .nil _ _) ?_
  refine aw_fl 253823 ?_
  refine aw_sk ?_
  refine block_normal ?_
  refine then_normal ?_
  refine aw_p1 (
    .a 2 8 <| .nil _ _) ?_
  refine then_normal ?_
  refine al_round ?_
  refine aw_p 495 (
    .a 1 8 <| .nil _ _) ?_
  refine aw_sq 990 991 ?_
  refine aw_tr 1980 ?_
  refine aw_sk ?_
  refine then_normal ?_
  refine aw_sq 1982 1983 ?_
  refine aw_bl 1 3965 ?_
  refine aw_p 7931 (
    .a 2 8 <| .nil _ _) ?_
  refine aw_d 15863 (
    .a 4 8 <| .p (does_c (au_82)) <| .a 8 8 <| .p (does_c (au_9)) <| .a 4 8 <| .nil _ _) ?_
  refine aw_w [(0, .slice (some ⟨0, 0, none⟩) 4 0), (1, .agg #[.int .i64 1, .int .i64 1]), (3, .pointer (some ⟨1, 0, none⟩)), (4, .int .i64 0), (5, .int .i64 1), (6, .int .i64 3), (7, .pointer (some ⟨8, 0, none⟩)), (8, .pointer (some ⟨9, 0, none⟩)), (9, .agg #[.int .i64 1, .int .i64 1]), (10, .agg #[.int .i64 1, .int .i64 1]), (11, .slice (some ⟨0, 0, none⟩) 4 0), (12, .int .i64 4), (13, .int .i64 3), (14, .bool true), (15, .int .i64 3), (16, .slice (some ⟨0, 0, none⟩) 4 0), (17, .int .i64 3), (18, .pointer (some ⟨0, 6, none⟩)), (19, .agg #[.int .i64 0, .int .i64 2]), (20, .agg #[.int .i64 0, .int .i64 2]), (21, .slice (some ⟨0, 0, none⟩) 4 0), (22, .int .i64 3), (23, .int .i64 4), (24, .slice (some ⟨0, 0, none⟩) 4 0), (25, .int .i64 4), (26, .int .i64 0), (27, .pointer (some ⟨0, 0, none⟩)), (28, .agg #[.int .i64 0, .int .i64 0]), (29, .agg #[.int .i64 0, .int .i64 0]), (30, .agg #[.int .i64 2, .int .i64 2]), (31, .agg #[.int .i64 0, .int .i64 2]), (32, .agg #[.int .i64 1, .int .i64 1]), (33, .bool false), (34, .pointer (some ⟨6, 1, none⟩)), (35, .int .i64 2), (36, .pointer (some ⟨7, 1, none⟩)), (37, .int .i64 2), (38, .bool false), (41, .pointer (some ⟨6, 1, none⟩)), (42, .int .i64 2), (43, .pointer (some ⟨1, 1, none⟩)), (44, .int .i64 1), (45, .bool false), (46, .bool false), (52, .bool false), (53, .bool false), (59, .bool false), (60, .int .i64 (-1)), (61, .int .i64 1), (62, .int .i64 3)] [(0, ⟨[.int .i64 0, .int .i64 0, .int .i64 2, .int .i64 0, .int .i64 2, .int .i64 2, .int .i64 0, .int .i64 2], 27, true, 2⟩), (1, ⟨[.int .i64 1, .int .i64 1], 27, true, 2⟩), (6, ⟨[.int .i64 2, .int .i64 2], 27, true, 2⟩), (7, ⟨[.int .i64 0, .int .i64 2], 27, true, 2⟩), (8, ⟨[.int .i64 0, .int .i64 2], 27, true, 2⟩), (9, ⟨[.int .i64 0, .int .i64 0], 27, true, 2⟩)] ?_
  refine aw_sq 31726 31727 ?_
  refine aw_p 63453 (
    .a 3 10 <| .p (does_c (au_105)) <| .nil _ _) ?_
  refine aw_fl 126907 ?_
  refine aw_sk ?_
  refine then_normal ?_
  refine aw_sq 63454 63455 ?_
  refine aw_p 126909 (
    .a 5 10 <| .nil _ _) ?_
  refine aw_tr 253818 ?_
  refine aw_p1 (
    .a 4 10 <| .nil _ _) ?_
  refine then_normal ?_
  refine aw_p 126911 (
    .a 16 10 <| .p (does_c (au_109)) <| .a 2 10 <| .nil _ _) ?_
  refine aw_w [(0, .slice (some ⟨0, 0, none⟩) 4 0), (1, .agg #[.int .i64 1, .int .i64 1]), (3, .pointer (some ⟨1, 0, none⟩)), (4, .int .i64 0), (5, .int .i64 1), (6, .int .i64 3), (7, .pointer (some ⟨8, 0, none⟩)), (8, .pointer (some ⟨9, 0, none⟩)), (9, .agg #[.int .i64 1, .int .i64 1]), (10, .agg #[.int .i64 1, .int .i64 1]), (11, .slice (some ⟨0, 0, none⟩) 4 0), (12, .int .i64 4), (13, .int .i64 3), (14, .bool true), (15, .int .i64 3), (16, .slice (some ⟨0, 0, none⟩) 4 0), (17, .int .i64 3), (18, .pointer (some ⟨0, 6, none⟩)), (19, .agg #[.int .i64 0, .int .i64 2]), (20, .agg #[.int .i64 0, .int .i64 2]), (21, .slice (some ⟨0, 0, none⟩) 4 0), (22, .int .i64 3), (23, .int .i64 4), (24, .slice (some ⟨0, 0, none⟩) 4 0), (25, .int .i64 4), (26, .int .i64 0), (27, .pointer (some ⟨0, 0, none⟩)), (28, .agg #[.int .i64 0, .int .i64 0]), (29, .agg #[.int .i64 0, .int .i64 0]), (30, .agg #[.int .i64 0, .int .i64 2]), (31, .agg #[.int .i64 0, .int .i64 0]), (32, .agg #[.int .i64 1, .int .i64 1]), (33, .bool false), (34, .pointer (some ⟨8, 1, none⟩)), (35, .int .i64 2), (36, .pointer (some ⟨9, 1, none⟩)), (37, .int .i64 0), (38, .bool true), (39, .agg #[.int .i64 0, .int .i64 0]), (40, .agg #[.int .i64 0, .int .i64 2]), (41, .pointer (some ⟨8, 1, none⟩)), (42, .int .i64 0), (43, .pointer (some ⟨1, 1, none⟩)), (44, .int .i64 1), (45, .bool true), (46, .bool true), (47, .pointer (some ⟨1, 1, none⟩)), (48, .int .i64 1), (49, .pointer (some ⟨9, 1, none⟩)), (50, .int .i64 2), (51, .bool true), (52, .bool true), (53, .bool true), (54, .agg #[.int .i64 0, .int .i64 0]), (55, .agg #[.int .i64 0, .int .i64 2]), (56, .agg #[.int .i64 1, .int .i64 1]), (57, .int .i64 (-1)), (58, .bool false), (59, .bool false), (60, .int .i64 (-1)), (61, .int .i64 1), (62, .int .i64 3)] [(0, ⟨[.int .i64 0, .int .i64 0, .int .i64 2, .int .i64 0, .int .i64 2, .int .i64 2, .int .i64 0, .int .i64 2], 27, true, 2⟩), (1, ⟨[.int .i64 1, .int .i64 1], 27, true, 2⟩), (8, ⟨[.int .i64 0, .int .i64 0], 27, true, 2⟩), (9, ⟨[.int .i64 0, .int .i64 2], 27, true, 2⟩)] ?_
  refine aw_fl 253823 ?_
  refine aw_sk ?_
  refine block_normal ?_
  refine then_normal ?_
  refine aw_p1 (
    .a 2 10 <| .nil _ _) ?_
  refine then_normal ?_
  refine al_round ?_
  refine aw_p 495 (
    .a 1 10 <| .nil _ _) ?_
  refine aw_sq 990 991 ?_
  refine aw_fl 1981 ?_
  refine aw_ex 0 ?_
  refine then_exit ?_
  refine then_exit ?_
  refine block_exit ?_
  refine then_normal ?_
  refine aw_p 63 (
    .a 2 10 <| .nil _ _) ?_
  refine aw_rt ?_
  exact en_ret [.int .i64 1] (by kernel_rfl)

theorem au_111  :
    AC Tryz.prog 46 0 ([.int .u64 3, .int .u64 5]) [] (.tuple #[.int .u64 0, .int .u64 15]) [] := by
  refine ac_in Tryz.func46 (fun w0 W pin => ?_)
  refine aw_p 3 (
    .a 2 1 <| .nil _ _) ?_
  refine aw_p 7 (
    .a 3 1 <| .nil _ _) ?_
  refine aw_p 15 (
    .a 3 1 <| .nil _ _) ?_
  refine aw_p 31 (
    .a 3 1 <| .nil _ _) ?_
  refine aw_p 63 (
    .a 3 1 <| .nil _ _) ?_
  refine aw_p 127 (
    .a 4 1 <| .nil _ _) ?_
  refine aw_p 255 (
    .a 7 1 <| .nil _ _) ?_
  refine aw_w [(0, .int .u64 3), (1, .int .u64 5), (4, .int .u64 0), (5, .int .u64 0), (6, .int .u64 3), (7, .int .u64 0), (8, .int .u64 5), (9, .int .u64 0), (11, .int .u64 0), (14, .int .u64 3), (15, .int .u64 3), (16, .int .u64 3), (17, .int .u64 0), (18, .int .u64 5), (19, .int .u64 5), (20, .int .u64 5), (21, .int .u64 0), (22, .int .u64 3), (23, .int .u64 5), (24, .int .u64 15)] [] ?_
  refine aw_p 511 (
    .a 3 1 <| .nil _ _) ?_
  refine aw_p 1023 (
    .a 3 1 <| .nil _ _) ?_
  refine aw_p 2047 (
    .a 6 1 <| .nil _ _) ?_
  refine aw_p 4095 (
    .a 9 1 <| .nil _ _) ?_
  refine aw_p 8191 (
    .a 4 1 <| .nil _ _) ?_
  refine aw_w [(0, .int .u64 3), (1, .int .u64 5), (4, .int .u64 0), (5, .int .u64 15), (6, .int .u64 3), (7, .int .u64 0), (8, .int .u64 5), (9, .int .u64 0), (11, .int .u64 0), (12, .int .u64 0), (13, .int .u64 0), (14, .int .u64 3), (15, .int .u64 3), (16, .int .u64 3), (17, .int .u64 0), (18, .int .u64 5), (19, .int .u64 5), (20, .int .u64 5), (21, .int .u64 0), (22, .int .u64 3), (23, .int .u64 5), (24, .int .u64 15), (31, .int .u64 0), (32, .int .u64 0), (33, .int .u64 0), (34, .int .u64 0), (35, .int .u64 0), (36, .int .u64 3), (37, .int .u64 0), (38, .int .u64 0), (39, .int .u64 0), (40, .int .u64 0), (41, .int .u64 0), (42, .int .u64 0), (43, .int .u64 0), (44, .int .u64 0), (45, .int .u64 0), (46, .int .u64 0), (47, .int .u64 0)] [] ?_
  refine aw_rt ?_
  exact en_ret [.int .u64 0, .int .u64 15] (by kernel_rfl)

theorem au_112  :
    AC Tryz.prog 16 0 ([.int .i64 3, .int .i64 5]) [] (.agg #[.int .i64 0, .int .u64 15]) [] := by
  refine ac_in Tryz.func16 (fun w0 W pin => ?_)
  refine aw_p 3 (
    .a 1 1 <| .nil _ _) ?_
  refine aw_p 7 (
    .a 4 2 <| .p (does_c (au_111)) <| .a 5 2 <| .nil _ _) ?_
  refine aw_sq 14 15 ?_
  refine aw_p 29 (
    .a 2 2 <| .nil _ _) ?_
  refine aw_fl 59 ?_
  refine aw_sk ?_
  refine then_normal ?_
  refine aw_sq 30 31 ?_
  refine aw_p 61 (
    .a 2 2 <| .nil _ _) ?_
  refine aw_fl 123 ?_
  refine aw_sk ?_
  refine then_normal ?_
  refine aw_p 63 (
    .a 5 2 <| .nil _ _) ?_
  refine aw_rt ?_
  exact en_ret [.agg #[.int .i64 0, .int .u64 15]] (by kernel_rfl)

theorem au_113  :
    AC Tryz.prog 17 0 ([.int .i64 15]) [] (.agg #[.int .i64 0, .int .u64 15]) [] := by
  refine ac_in Tryz.func17 (fun w0 W pin => ?_)
  refine aw_p 3 (
    .a 1 1 <| .nil _ _) ?_
  refine aw_p 7 (
    .a 6 2 <| .nil _ _) ?_
  refine aw_rt ?_
  exact en_ret [.agg #[.int .i64 0, .int .u64 15]] (by kernel_rfl)

theorem au_114  :
    AC Tryz.prog 98 0 ([.int .u64 4]) [] (.int .i64 3) [] := by
  refine ac_in Tryz.func98 (fun w0 W pin => ?_)
  refine aw_p 3 (
    .a 1 1 <| .nil _ _) ?_
  refine aw_sq 6 7 ?_
  refine aw_p 13 (
    .a 2 1 <| .nil _ _) ?_
  refine aw_fl 27 ?_
  refine aw_sk ?_
  refine then_normal ?_
  refine aw_sq 14 15 ?_
  refine aw_p 29 (
    .a 2 1 <| .nil _ _) ?_
  refine aw_fl 59 ?_
  refine aw_sk ?_
  refine then_normal ?_
  refine aw_sq 30 31 ?_
  refine aw_p 61 (
    .a 2 1 <| .nil _ _) ?_
  refine aw_fl 123 ?_
  refine aw_sk ?_
  refine then_normal ?_
  refine aw_p 63 (
    .a 3 1 <|
    .p (does_val (v' := .int .u8 3) (does_ixs (s := (ByteArray.mk #[0, 1, 2, 2, 3, 3, 3, 3, 4, 4, 4, 4, 4, 4, 4, 4, 5, 5, 5, 5, 5, 5, 5, 5, 5, 5, 5, 5, 5, 5, 5, 5, 6, 6, 6, 6, 6, 6, 6, 6, 6, 6, 6, 6, 6, 6, 6, 6, 6, 6, 6, 6, 6, 6, 6, 6, 6, 6, 6, 6, 6, 6, 6, 6, 7, 7, 7, 7, 7, 7, 7, 7, 7, 7, 7, 7, 7, 7, 7, 7, 7, 7, 7, 7, 7, 7, 7, 7, 7, 7, 7, 7, 7, 7, 7, 7, 7, 7, 7, 7, 7, 7, 7, 7, 7, 7, 7, 7, 7, 7, 7, 7, 7, 7, 7, 7, 7, 7, 7, 7, 7, 7, 7, 7, 7, 7, 7, 7, 8, 8, 8, 8, 8, 8, 8, 8, 8, 8, 8, 8, 8, 8, 8, 8, 8, 8, 8, 8, 8, 8, 8, 8, 8, 8, 8, 8, 8, 8, 8, 8, 8, 8, 8, 8, 8, 8, 8, 8, 8, 8, 8, 8, 8, 8, 8, 8, 8, 8, 8, 8, 8, 8, 8, 8, 8, 8, 8, 8, 8, 8, 8, 8, 8, 8, 8, 8, 8, 8, 8, 8, 8, 8, 8, 8, 8, 8, 8, 8, 8, 8, 8, 8, 8, 8, 8, 8, 8, 8, 8, 8, 8, 8, 8, 8, 8, 8, 8, 8, 8, 8, 8, 8, 8, 8, 8, 8, 8, 8, 8, 8, 8, 8, 8, 8, 8, 8, 8, 8, 8, 8, 8, 8, 8, 8, 8, 8])) (j := 4) (b := (3 : UInt8)) (by decide) (by kernel_rfl)) (by kernel_rfl)) <|
    .a 3 1 <| .nil _ _) ?_
  refine aw_rt ?_
  exact en_ret [.int .i64 3] (by kernel_rfl)

theorem au_115  :
    AC Tryz.prog 77 0 ([.int .u64 4]) [] (.int .i64 3) [] := by
  refine ac_in Tryz.func77 (fun w0 W pin => ?_)
  refine aw_p 3 (
    .a 1 1 <| .nil _ _) ?_
  refine aw_sq 6 7 ?_
  refine aw_fl 13 ?_
  refine aw_sk ?_
  refine then_normal ?_
  refine aw_p 15 (
    .a 1 1 <| .p (does_c (au_114)) <| .a 1 1 <| .nil _ _) ?_
  refine aw_rt ?_
  exact en_ret [.int .i64 3] (by kernel_rfl)

theorem au_116  :
    AC Tryz.prog 48 0 ([.agg #[.int .i64 2, .int .i64 0], .agg #[.int .i64 0, .int .i64 0]]) [] (.int .i64 1) [] := by
  refine ac_in Tryz.func48 (fun w0 W pin => ?_)
  refine aw_p 3 (
    .a 3 1 <| .nil _ _) ?_
  refine aw_sq 6 7 ?_
  refine aw_p 13 (
    .a 4 3 <| .p (does_c (au_88)) <| .a 1 3 <| .nil _ _) ?_
  refine aw_p 27 (
    .a 2 3 <| .nil _ _) ?_
  refine aw_tr 54 ?_
  refine aw_p 109 (
    .a 2 3 <| .nil _ _) ?_
  refine aw_rt ?_
  refine then_ret ?_
  exact en_ret [.int .i64 1] (by kernel_rfl)

theorem au_117  :
    AC Tryz.prog 75 0 ([.int .i64 2, .int .i64 2]) [] (.int .i64 0) [] := by
  refine ac_in Tryz.func75 (fun w0 W pin => ?_)
  refine aw_p 3 (
    .a 1 1 <| .nil _ _) ?_
  refine aw_p 7 (
    .a 1 1 <| .p (does_c (au_87)) <| .a 1 1 <| .nil _ _) ?_
  refine aw_p 15 (
    .a 1 1 <| .p (does_c (au_87)) <| .a 1 1 <| .nil _ _) ?_
  refine aw_sq 30 31 ?_
  refine aw_p 61 (
    .a 1 1 <| .nil _ _) ?_
  refine aw_fl 123 ?_
  refine aw_sk ?_
  refine then_normal ?_
  refine aw_sq 62 63 ?_
  refine aw_p 125 (
    .a 1 1 <| .nil _ _) ?_
  refine aw_fl 251 ?_
  refine aw_sk ?_
  refine then_normal ?_
  refine aw_sq 126 127 ?_
  refine aw_p 253 (
    .a 3 1 <| .nil _ _) ?_
  refine aw_fl 507 ?_
  refine aw_sk ?_
  refine then_normal ?_
  refine aw_sq 254 255 ?_
  refine aw_p 509 (
    .a 3 1 <| .nil _ _) ?_
  refine aw_fl 1019 ?_
  refine aw_sk ?_
  refine then_normal ?_
  refine aw_p 511 (
    .a 1 1 <| .nil _ _) ?_
  refine aw_rt ?_
  exact en_ret [.int .i64 0] (by kernel_rfl)

theorem au_118  :
    AC Tryz.prog 48 0 ([.agg #[.int .i64 2, .int .i64 2], .agg #[.int .i64 2, .int .i64 0]]) [] (.int .i64 1) [] := by
  refine ac_in Tryz.func48 (fun w0 W pin => ?_)
  refine aw_p 3 (
    .a 3 1 <| .nil _ _) ?_
  refine aw_sq 6 7 ?_
  refine aw_p 13 (
    .a 4 3 <| .p (does_c (au_117)) <| .a 1 3 <| .nil _ _) ?_
  refine aw_p 27 (
    .a 2 3 <| .nil _ _) ?_
  refine aw_fl 55 ?_
  refine aw_sk ?_
  refine then_normal ?_
  refine aw_p 15 (
    .a 4 3 <| .p (does_c (au_88)) <| .a 1 3 <| .nil _ _) ?_
  refine aw_rt ?_
  exact en_ret [.int .i64 1] (by kernel_rfl)

theorem au_119  :
    AC Tryz.prog 75 0 ([.int .i64 0, .int .i64 2]) [] (.int .i64 (-1)) [] := by
  refine ac_in Tryz.func75 (fun w0 W pin => ?_)
  refine aw_p 3 (
    .a 1 1 <| .nil _ _) ?_
  refine aw_p 7 (
    .a 1 1 <| .p (does_c (au_18)) <| .a 1 1 <| .nil _ _) ?_
  refine aw_p 15 (
    .a 1 1 <| .p (does_c (au_87)) <| .a 1 1 <| .nil _ _) ?_
  refine aw_sq 30 31 ?_
  refine aw_p 61 (
    .a 1 1 <| .nil _ _) ?_
  refine aw_fl 123 ?_
  refine aw_sk ?_
  refine then_normal ?_
  refine aw_sq 62 63 ?_
  refine aw_p 125 (
    .a 1 1 <| .nil _ _) ?_
  refine aw_fl 251 ?_
  refine aw_sk ?_
  refine then_normal ?_
  refine aw_sq 126 127 ?_
  refine aw_p 253 (
    .a 3 1 <| .nil _ _) ?_
  refine aw_tr 506 ?_
  refine aw_p 1013 (
    .a 1 1 <| .nil _ _) ?_
  refine aw_rt ?_
  refine then_ret ?_
  exact en_ret [.int .i64 (-1)] (by kernel_rfl)

theorem au_120  :
    AC Tryz.prog 48 0 ([.agg #[.int .i64 0, .int .i64 2], .agg #[.int .i64 2, .int .i64 2]]) [] (.int .i64 (-1)) [] := by
  refine ac_in Tryz.func48 (fun w0 W pin => ?_)
  refine aw_p 3 (
    .a 3 1 <| .nil _ _) ?_
  refine aw_sq 6 7 ?_
  refine aw_p 13 (
    .a 4 3 <| .p (does_c (au_119)) <| .a 1 3 <| .nil _ _) ?_
  refine aw_p 27 (
    .a 2 3 <| .nil _ _) ?_
  refine aw_tr 54 ?_
  refine aw_p 109 (
    .a 2 3 <| .nil _ _) ?_
  refine aw_rt ?_
  refine then_ret ?_
  exact en_ret [.int .i64 (-1)] (by kernel_rfl)

theorem au_121  :
    AC Tryz.prog 48 0 ([.agg #[.int .i64 0, .int .i64 2], .agg #[.int .i64 2, .int .i64 0]]) [] (.int .i64 (-1)) [] := by
  refine ac_in Tryz.func48 (fun w0 W pin => ?_)
  refine aw_p 3 (
    .a 3 1 <| .nil _ _) ?_
  refine aw_sq 6 7 ?_
  refine aw_p 13 (
    .a 4 3 <| .p (does_c (au_119)) <| .a 1 3 <| .nil _ _) ?_
  refine aw_p 27 (
    .a 2 3 <| .nil _ _) ?_
  refine aw_tr 54 ?_
  refine aw_p 109 (
    .a 2 3 <| .nil _ _) ?_
  refine aw_rt ?_
  refine then_ret ?_
  exact en_ret [.int .i64 (-1)] (by kernel_rfl)

theorem au_122  :
    AC Tryz.prog 75 0 ([.int .i64 0, .int .i64 0]) [] (.int .i64 0) [] := by
  refine ac_in Tryz.func75 (fun w0 W pin => ?_)
  refine aw_p 3 (
    .a 1 1 <| .nil _ _) ?_
  refine aw_p 7 (
    .a 1 1 <| .p (does_c (au_18)) <| .a 1 1 <| .nil _ _) ?_
  refine aw_p 15 (
    .a 1 1 <| .p (does_c (au_18)) <| .a 1 1 <| .nil _ _) ?_
  refine aw_sq 30 31 ?_
  refine aw_p 61 (
    .a 1 1 <| .nil _ _) ?_
  refine aw_fl 123 ?_
  refine aw_sk ?_
  refine then_normal ?_
  refine aw_sq 62 63 ?_
  refine aw_p 125 (
    .a 1 1 <| .nil _ _) ?_
  refine aw_fl 251 ?_
  refine aw_sk ?_
  refine then_normal ?_
  refine aw_sq 126 127 ?_
  refine aw_p 253 (
    .a 3 1 <| .nil _ _) ?_
  refine aw_fl 507 ?_
  refine aw_sk ?_
  refine then_normal ?_
  refine aw_sq 254 255 ?_
  refine aw_p 509 (
    .a 3 1 <| .nil _ _) ?_
  refine aw_fl 1019 ?_
  refine aw_sk ?_
  refine then_normal ?_
  refine aw_p 511 (
    .a 1 1 <| .nil _ _) ?_
  refine aw_rt ?_
  exact en_ret [.int .i64 0] (by kernel_rfl)

theorem au_123  :
    AC Tryz.prog 48 0 ([.agg #[.int .i64 0, .int .i64 2], .agg #[.int .i64 0, .int .i64 0]]) [] (.int .i64 1) [] := by
  refine ac_in Tryz.func48 (fun w0 W pin => ?_)
  refine aw_p 3 (
    .a 3 1 <| .nil _ _) ?_
  refine aw_sq 6 7 ?_
  refine aw_p 13 (
    .a 4 3 <| .p (does_c (au_122)) <| .a 1 3 <| .nil _ _) ?_
  refine aw_p 27 (
    .a 2 3 <| .nil _ _) ?_
  refine aw_fl 55 ?_
  refine aw_sk ?_
  refine then_normal ?_
  refine aw_p 15 (
    .a 4 3 <| .p (does_c (au_88)) <| .a 1 3 <| .nil _ _) ?_
  refine aw_rt ?_
  exact en_ret [.int .i64 1] (by kernel_rfl)

theorem au_124  :
    AC Tryz.prog 89 1 ([.slice (some ⟨0, 0, none⟩) 4 0, .int .i64 0, .int .i64 4, .func (.func 48) #[] #[]]) [(0, ⟨[.int .i64 0, .int .i64 0, .int .i64 2, .int .i64 0, .int .i64 2, .int .i64 2, .int .i64 0, .int .i64 2], 27, true, 2⟩)] (.tuple #[]) [(0, ⟨[.int .i64 0, .int .i64 0, .int .i64 0, .int .i64 2, .int .i64 2, .int .i64 0, .int .i64 2, .int .i64 2], 27, true, 2⟩)] := by
  refine ac_in Tryz.func89 (fun w0 W pin => ?_)
  refine aw_p 3 (
    .a 3 1 <| .nil _ _) ?_
  refine aw_bl 0 7 ?_
  refine aw_lp 15 ?_
  refine al_round ?_
  refine aw_sq 30 31 ?_
  refine aw_p 61 (
    .a 3 1 <| .nil _ _) ?_
  refine aw_tr 122 ?_
  refine aw_sk ?_
  refine then_normal ?_
  refine aw_sq 62 63 ?_
  refine aw_bl 1 125 ?_
  refine aw_p 251 (
    .a 2 1 <| .nil _ _) ?_
  refine aw_bl 2 503 ?_
  refine aw_lp 1007 ?_
  refine al_round ?_
  refine aw_sq 2014 2015 ?_
  refine aw_d 4029 (
    .a 14 1 <| .p (does_c (au_116)) <| .a 2 1 <| .nil _ _) ?_
  refine aw_w [(0, .slice (some ⟨0, 0, none⟩) 4 0), (1, .int .i64 0), (2, .int .i64 4), (3, .func (.func 48) #[] #[]), (8, .int .i64 1), (9, .int .i64 1), (10, .int .i64 0), (11, .int .i64 1), (12, .int .i64 1), (13, .int .i64 4), (14, .bool true), (17, .int .i64 1), (18, .int .i64 1), (19, .int .i64 0), (20, .bool true), (21, .bool true), (22, .func (.func 48) #[] #[]), (23, .slice (some ⟨0, 0, none⟩) 4 0), (24, .int .i64 1), (25, .pointer (some ⟨0, 2, none⟩)), (26, .agg #[.int .i64 2, .int .i64 0]), (27, .slice (some ⟨0, 0, none⟩) 4 0), (28, .int .i64 1), (29, .int .i64 0), (30, .pointer (some ⟨0, 0, none⟩)), (31, .agg #[.int .i64 0, .int .i64 0]), (32, .int .i64 1), (33, .bool false), (34, .bool false)] [(0, ⟨[.int .i64 0, .int .i64 0, .int .i64 2, .int .i64 0, .int .i64 2, .int .i64 2, .int .i64 0, .int .i64 2], 27, true, 2⟩)] ?_
  refine aw_fl 8059 ?_
  refine aw_ex 2 ?_
  refine then_exit ?_
  refine then_exit ?_
  refine block_exit ?_
  refine block_normal ?_
  refine then_normal ?_
  refine aw_p1 (
    .a 3 1 <| .nil _ _) ?_
  refine then_normal ?_
  refine al_round ?_
  refine aw_sq 30 31 ?_
  refine aw_p 61 (
    .a 3 1 <| .nil _ _) ?_
  refine aw_tr 122 ?_
  refine aw_sk ?_
  refine then_normal ?_
  refine aw_sq 62 63 ?_
  refine aw_bl 1 125 ?_
  refine aw_p 251 (
    .a 2 1 <| .nil _ _) ?_
  refine aw_bl 2 503 ?_
  refine aw_lp 1007 ?_
  refine al_round ?_
  refine aw_sq 2014 2015 ?_
  refine aw_d 4029 (
    .a 14 1 <| .p (does_c (au_118)) <| .a 2 1 <| .nil _ _) ?_
  refine aw_w [(0, .slice (some ⟨0, 0, none⟩) 4 0), (1, .int .i64 0), (2, .int .i64 4), (3, .func (.func 48) #[] #[]), (8, .int .i64 2), (9, .int .i64 2), (10, .int .i64 0), (11, .int .i64 1), (12, .int .i64 2), (13, .int .i64 4), (14, .bool true), (15, .int .i64 1), (16, .int .i64 2), (17, .int .i64 2), (18, .int .i64 2), (19, .int .i64 0), (20, .bool true), (21, .bool true), (22, .func (.func 48) #[] #[]), (23, .slice (some ⟨0, 0, none⟩) 4 0), (24, .int .i64 2), (25, .pointer (some ⟨0, 4, none⟩)), (26, .agg #[.int .i64 2, .int .i64 2]), (27, .slice (some ⟨0, 0, none⟩) 4 0), (28, .int .i64 2), (29, .int .i64 1), (30, .pointer (some ⟨0, 2, none⟩)), (31, .agg #[.int .i64 2, .int .i64 0]), (32, .int .i64 1), (33, .bool false), (34, .bool false)] [(0, ⟨[.int .i64 0, .int .i64 0, .int .i64 2, .int .i64 0, .int .i64 2, .int .i64 2, .int .i64 0, .int .i64 2], 27, true, 2⟩)] ?_
  refine aw_fl 8059 ?_
  refine aw_ex 2 ?_
  refine then_exit ?_
  refine then_exit ?_
  refine block_exit ?_
  refine block_normal ?_
  refine then_normal ?_
  refine aw_p1 (
    .a 3 1 <| .nil _ _) ?_
  refine then_normal ?_
  refine al_round ?_
  refine aw_sq 30 31 ?_
  refine aw_p 61 (
    .a 3 1 <| .nil _ _) ?_
  refine aw_tr 122 ?_
  refine aw_sk ?_
  refine then_normal ?_
  refine aw_sq 62 63 ?_
  refine aw_bl 1 125 ?_
  refine aw_p 251 (
    .a 2 1 <| .nil _ _) ?_
  refine aw_bl 2 503 ?_
  refine aw_lp 1007 ?_
  refine al_round ?_
  refine aw_sq 2014 2015 ?_
  refine aw_d 4029 (
    .a 14 1 <| .p (does_c (au_120)) <| .a 2 1 <| .nil _ _) ?_
  refine aw_w [(0, .slice (some ⟨0, 0, none⟩) 4 0), (1, .int .i64 0), (2, .int .i64 4), (3, .func (.func 48) #[] #[]), (8, .int .i64 3), (9, .int .i64 3), (10, .int .i64 0), (11, .int .i64 1), (12, .int .i64 3), (13, .int .i64 4), (14, .bool true), (15, .int .i64 2), (16, .int .i64 3), (17, .int .i64 3), (18, .int .i64 3), (19, .int .i64 0), (20, .bool true), (21, .bool true), (22, .func (.func 48) #[] #[]), (23, .slice (some ⟨0, 0, none⟩) 4 0), (24, .int .i64 3), (25, .pointer (some ⟨0, 6, none⟩)), (26, .agg #[.int .i64 0, .int .i64 2]), (27, .slice (some ⟨0, 0, none⟩) 4 0), (28, .int .i64 3), (29, .int .i64 2), (30, .pointer (some ⟨0, 4, none⟩)), (31, .agg #[.int .i64 2, .int .i64 2]), (32, .int .i64 (-1)), (33, .bool true), (34, .bool true)] [(0, ⟨[.int .i64 0, .int .i64 0, .int .i64 2, .int .i64 0, .int .i64 2, .int .i64 2, .int .i64 0, .int .i64 2], 27, true, 2⟩)] ?_
  refine aw_tr 8058 ?_
  refine aw_sk ?_
  refine then_normal ?_
  refine aw_sq 4030 4031 ?_
  refine aw_bl 3 8061 ?_
  refine aw_d1 (
    .a 18 1 <| .nil _ _) ?_
  refine block_normal ?_
  refine then_normal ?_
  refine aw_p1 (
    .a 3 1 <| .nil _ _) ?_
  refine then_normal ?_
  refine al_round ?_
  refine aw_sq 2014 2015 ?_
  refine aw_d 4029 (
    .a 14 1 <| .p (does_c (au_121)) <| .a 2 1 <| .nil _ _) ?_
  refine aw_w [(0, .slice (some ⟨0, 0, none⟩) 4 0), (1, .int .i64 0), (2, .int .i64 4), (3, .func (.func 48) #[] #[]), (8, .int .i64 3), (9, .int .i64 2), (10, .int .i64 0), (11, .int .i64 1), (12, .int .i64 3), (13, .int .i64 4), (14, .bool true), (15, .int .i64 2), (16, .int .i64 3), (17, .int .i64 3), (18, .int .i64 2), (19, .int .i64 0), (20, .bool true), (21, .bool true), (22, .func (.func 48) #[] #[]), (23, .slice (some ⟨0, 0, none⟩) 4 0), (24, .int .i64 2), (25, .pointer (some ⟨0, 4, none⟩)), (26, .agg #[.int .i64 0, .int .i64 2]), (27, .slice (some ⟨0, 0, none⟩) 4 0), (28, .int .i64 2), (29, .int .i64 1), (30, .pointer (some ⟨0, 2, none⟩)), (31, .agg #[.int .i64 2, .int .i64 0]), (32, .int .i64 (-1)), (33, .bool true), (34, .bool true), (35, .int .i64 3), (36, .int .i64 2), (37, .slice (some ⟨0, 0, none⟩) 4 0), (38, .int .i64 3), (39, .slice (some ⟨0, 0, none⟩) 4 0), (40, .int .i64 3), (41, .int .i64 2), (42, .slice (some ⟨0, 0, none⟩) 4 0), (43, .int .i64 3), (44, .int .i64 2), (45, .pointer (some ⟨0, 4, none⟩)), (46, .agg #[.int .i64 2, .int .i64 2]), (47, .slice (some ⟨0, 0, none⟩) 4 0), (48, .int .i64 3), (49, .pointer (some ⟨0, 6, none⟩)), (50, .agg #[.int .i64 0, .int .i64 2]), (51, .pointer (some ⟨0, 6, none⟩)), (52, .pointer (some ⟨0, 4, none⟩))] [(0, ⟨[.int .i64 0, .int .i64 0, .int .i64 2, .int .i64 0, .int .i64 0, .int .i64 2, .int .i64 2, .int .i64 2], 27, true, 2⟩)] ?_
  refine aw_tr 8058 ?_
  refine aw_sk ?_
  refine then_normal ?_
  refine aw_sq 4030 4031 ?_
  refine aw_bl 3 8061 ?_
  refine aw_d1 (
    .a 18 1 <| .nil _ _) ?_
  refine block_normal ?_
  refine then_normal ?_
  refine aw_p1 (
    .a 3 1 <| .nil _ _) ?_
  refine then_normal ?_
  refine al_round ?_
  refine aw_sq 2014 2015 ?_
  refine aw_d 4029 (
    .a 14 1 <| .p (does_c (au_123)) <| .a 2 1 <| .nil _ _) ?_
  refine aw_w [(0, .slice (some ⟨0, 0, none⟩) 4 0), (1, .int .i64 0), (2, .int .i64 4), (3, .func (.func 48) #[] #[]), (8, .int .i64 3), (9, .int .i64 1), (10, .int .i64 0), (11, .int .i64 1), (12, .int .i64 3), (13, .int .i64 4), (14, .bool true), (15, .int .i64 2), (16, .int .i64 3), (17, .int .i64 3), (18, .int .i64 1), (19, .int .i64 0), (20, .bool true), (21, .bool true), (22, .func (.func 48) #[] #[]), (23, .slice (some ⟨0, 0, none⟩) 4 0), (24, .int .i64 1), (25, .pointer (some ⟨0, 2, none⟩)), (26, .agg #[.int .i64 0, .int .i64 2]), (27, .slice (some ⟨0, 0, none⟩) 4 0), (28, .int .i64 1), (29, .int .i64 0), (30, .pointer (some ⟨0, 0, none⟩)), (31, .agg #[.int .i64 0, .int .i64 0]), (32, .int .i64 1), (33, .bool false), (34, .bool false), (35, .int .i64 2), (36, .int .i64 1), (37, .slice (some ⟨0, 0, none⟩) 4 0), (38, .int .i64 2), (39, .slice (some ⟨0, 0, none⟩) 4 0), (40, .int .i64 2), (41, .int .i64 1), (42, .slice (some ⟨0, 0, none⟩) 4 0), (43, .int .i64 2), (44, .int .i64 1), (45, .pointer (some ⟨0, 2, none⟩)), (46, .agg #[.int .i64 2, .int .i64 0]), (47, .slice (some ⟨0, 0, none⟩) 4 0), (48, .int .i64 2), (49, .pointer (some ⟨0, 4, none⟩)), (50, .agg #[.int .i64 0, .int .i64 2]), (51, .pointer (some ⟨0, 4, none⟩)), (52, .pointer (some ⟨0, 2, none⟩))] [(0, ⟨[.int .i64 0, .int .i64 0, .int .i64 0, .int .i64 2, .int .i64 2, .int .i64 0, .int .i64 2, .int .i64 2], 27, true, 2⟩)] ?_
  refine aw_fl 8059 ?_
  refine aw_ex 2 ?_
  refine then_exit ?_
  refine then_exit ?_
  refine block_exit ?_
  refine block_normal ?_
  refine then_normal ?_
  refine aw_p1 (
    .a 3 1 <| .nil _ _) ?_
  refine then_normal ?_
  refine al_round ?_
  refine aw_sq 30 31 ?_
  refine aw_p 61 (
    .a 3 1 <| .nil _ _) ?_
  refine aw_fl 123 ?_
  refine aw_ex 0 ?_
  refine then_exit ?_
  refine then_exit ?_
  refine block_exit ?_
  exact en_normal [] (by kernel_rfl)

theorem au_125  :
    AC Tryz.prog 76 1 ([.slice (some ⟨0, 0, none⟩) 4 0, .int .i64 0, .int .i64 4, .int .i64 3, .func (.func 48) #[] #[]]) [(0, ⟨[.int .i64 0, .int .i64 0, .int .i64 2, .int .i64 0, .int .i64 2, .int .i64 2, .int .i64 0, .int .i64 2], 27, true, 2⟩)] (.tuple #[]) [(0, ⟨[.int .i64 0, .int .i64 0, .int .i64 0, .int .i64 2, .int .i64 2, .int .i64 0, .int .i64 2, .int .i64 2], 27, true, 2⟩)] := by
  refine ac_in Tryz.func76 (fun w0 W pin => ?_)
  refine aw_p 3 (
    .a 1 1 <| .nil _ _) ?_
  refine aw_p 7 (
    .a 1 1 <| .nil _ _) ?_
  refine aw_bl 0 15 ?_
  refine aw_lp 31 ?_
  refine al_round ?_
  refine aw_bl 1 63 ?_
  refine aw_p 127 (
    .a 4 1 <| .nil _ _) ?_
  refine aw_sq 254 255 ?_
  refine aw_p 509 (
    .a 2 1 <| .nil _ _) ?_
  refine aw_tr 1018 ?_
  refine aw_p 2037 (
    .a 4 1 <| .p (does_k [0] (au_124)) <| .nil _ _) ?_
  refine aw_rt ?_
  refine then_ret ?_
  refine block_ret ?_
  refine then_ret ?_
  refine block_ret ?_
  exact en_ret [] (by kernel_rfl)

theorem au_126  :
    AC Tryz.prog 47 1 ([.slice (some ⟨0, 0, none⟩) 4 0, .func (.func 48) #[] #[]]) [(0, ⟨[.int .i64 0, .int .i64 0, .int .i64 2, .int .i64 0, .int .i64 2, .int .i64 2, .int .i64 0, .int .i64 2], 27, true, 2⟩)] (.tuple #[]) [(0, ⟨[.int .i64 0, .int .i64 0, .int .i64 0, .int .i64 2, .int .i64 2, .int .i64 0, .int .i64 2, .int .i64 2], 27, true, 2⟩)] := by
  refine ac_in Tryz.func47 (fun w0 W pin => ?_)
  refine aw_p 3 (
    .a 3 1 <| .nil _ _) ?_
  refine aw_p1 (
    .a 4 1 <| .p (does_c (au_115)) <| .a 1 1 <| .p (does_k [0] (au_125)) <| .nil _ _) ?_
  exact en_normal [] (by kernel_rfl)

theorem au_127  :
    AC Tryz.prog 49 1 ([.slice (some ⟨0, 0, none⟩) 4 0]) [(0, ⟨[.int .i64 0, .int .i64 0, .int .i64 0, .int .i64 2, .int .i64 2, .int .i64 0, .int .i64 2, .int .i64 2], 27, true, 2⟩)] (.slice (some ⟨0, 0, none⟩) 4 0) [(0, ⟨[.int .i64 0, .int .i64 0, .int .i64 0, .int .i64 2, .int .i64 2, .int .i64 0, .int .i64 2, .int .i64 2], 27, true, 2⟩)] := by
  refine ac_in Tryz.func49 (fun w0 W pin => ?_)
  refine aw_p 3 (
    .a 1 1 <| .nil _ _) ?_
  refine aw_sq 6 7 ?_
  refine aw_p 13 (
    .a 3 1 <| .nil _ _) ?_
  refine aw_fl 27 ?_
  refine aw_sk ?_
  refine then_normal ?_
  refine aw_sq 14 15 ?_
  refine aw_p 29 (
    .a 1 1 <| .nil _ _) ?_
  refine aw_bl 0 59 ?_
  refine aw_lp 119 ?_
  refine al_round ?_
  refine aw_sq 238 239 ?_
  refine aw_p 477 (
    .a 4 1 <| .nil _ _) ?_
  refine aw_tr 954 ?_
  refine aw_sk ?_
  refine then_normal ?_
  refine aw_sq 478 479 ?_
  refine aw_bl 1 957 ?_
  refine aw_d 1915 (
    .a 9 1 <| .p (does_e false ((show ((0 == 0) && ((2 == 0) && true)) = false from by decide))) <| .nil _ _) ?_
  refine aw_fl 3831 ?_
  refine aw_sk ?_
  refine block_normal ?_
  refine then_normal ?_
  refine aw_p1 (
    .a 3 1 <| .nil _ _) ?_
  refine then_normal ?_
  refine al_round ?_
  refine aw_sq 238 239 ?_
  refine aw_p 477 (
    .a 4 1 <| .nil _ _) ?_
  refine aw_w [(0, .slice (some ⟨0, 0, none⟩) 4 0), (2, .slice none 0 0), (3, .int .i64 2), (6, .slice (some ⟨0, 0, none⟩) 4 0), (7, .int .i64 4), (8, .bool false), (10, .int .i64 2), (11, .slice (some ⟨0, 0, none⟩) 4 0), (12, .int .i64 4), (13, .bool true), (14, .int .i64 1), (15, .int .i64 2), (16, .slice (some ⟨0, 0, none⟩) 4 0), (17, .int .i64 1), (18, .pointer (some ⟨0, 2, none⟩)), (19, .agg #[.int .i64 0, .int .i64 2]), (20, .slice (some ⟨0, 0, none⟩) 4 0), (21, .int .i64 1), (22, .int .i64 0), (23, .pointer (some ⟨0, 0, none⟩)), (24, .agg #[.int .i64 0, .int .i64 0]), (25, .bool false)] [(0, ⟨[.int .i64 0, .int .i64 0, .int .i64 0, .int .i64 2, .int .i64 2, .int .i64 0, .int .i64 2, .int .i64 2], 27, true, 2⟩)] ?_
  refine aw_tr 954 ?_
  refine aw_sk ?_
  refine then_normal ?_
  refine aw_sq 478 479 ?_
  refine aw_bl 1 957 ?_
  refine aw_d 1915 (
    .a 9 1 <| .p (does_e false ((show ((2 == 0) && ((0 == 2) && true)) = false from by decide))) <| .nil _ _) ?_
  refine aw_fl 3831 ?_
  refine aw_sk ?_
  refine block_normal ?_
  refine then_normal ?_
  refine aw_p1 (
    .a 3 1 <| .nil _ _) ?_
  refine then_normal ?_
  refine al_round ?_
  refine aw_sq 238 239 ?_
  refine aw_p 477 (
    .a 4 1 <| .nil _ _) ?_
  refine aw_tr 954 ?_
  refine aw_sk ?_
  refine then_normal ?_
  refine aw_sq 478 479 ?_
  refine aw_bl 1 957 ?_
  refine aw_d 1915 (
    .a 9 1 <| .p (does_e false ((show ((2 == 2) && ((2 == 0) && true)) = false from by decide))) <| .nil _ _) ?_
  refine aw_w [(0, .slice (some ⟨0, 0, none⟩) 4 0), (2, .slice none 0 0), (3, .int .i64 3), (6, .slice (some ⟨0, 0, none⟩) 4 0), (7, .int .i64 4), (8, .bool false), (10, .int .i64 3), (11, .slice (some ⟨0, 0, none⟩) 4 0), (12, .int .i64 4), (13, .bool true), (14, .int .i64 2), (15, .int .i64 3), (16, .slice (some ⟨0, 0, none⟩) 4 0), (17, .int .i64 3), (18, .pointer (some ⟨0, 6, none⟩)), (19, .agg #[.int .i64 2, .int .i64 2]), (20, .slice (some ⟨0, 0, none⟩) 4 0), (21, .int .i64 3), (22, .int .i64 2), (23, .pointer (some ⟨0, 4, none⟩)), (24, .agg #[.int .i64 2, .int .i64 0]), (25, .bool false)] [(0, ⟨[.int .i64 0, .int .i64 0, .int .i64 0, .int .i64 2, .int .i64 2, .int .i64 0, .int .i64 2, .int .i64 2], 27, true, 2⟩)] ?_
  refine aw_fl 3831 ?_
  refine aw_sk ?_
  refine block_normal ?_
  refine then_normal ?_
  refine aw_p1 (
    .a 3 1 <| .nil _ _) ?_
  refine then_normal ?_
  refine al_round ?_
  refine aw_sq 238 239 ?_
  refine aw_p 477 (
    .a 4 1 <| .nil _ _) ?_
  refine aw_fl 955 ?_
  refine aw_ex 0 ?_
  refine then_exit ?_
  refine then_exit ?_
  refine block_exit ?_
  refine then_normal ?_
  refine aw_p 31 (
    .a 2 1 <| .nil _ _) ?_
  refine aw_rt ?_
  exact en_ret [.slice (some ⟨0, 0, none⟩) 4 0] (by kernel_rfl)

theorem au_128  :
    AC Tryz.prog 42 0 ([.agg #[.int .i64 0, .int .i64 0], .agg #[.int .i64 0, .int .i64 2], .agg #[.int .i64 2, .int .i64 0]]) [] (.int .i64 (-4)) [] := by
  refine ac_in Tryz.func42 (fun w0 W pin => ?_)
  refine aw_p 3 (
    .a 4 1 <| .nil _ _) ?_
  refine aw_d 7 (
    .a 2 4 <| .p (does_c (au_83)) <| .a 2 4 <| .p (does_c (au_78)) <| .a 4 4 <| .nil _ _) ?_
  refine aw_p 15 (
    .a 12 6 <| .nil _ _) ?_
  refine aw_w [(0, .agg #[.int .i64 0, .int .i64 0]), (1, .agg #[.int .i64 0, .int .i64 2]), (2, .agg #[.int .i64 2, .int .i64 0]), (3, .pointer (some ⟨1, 0, none⟩)), (4, .pointer (some ⟨2, 0, none⟩)), (5, .pointer (some ⟨3, 0, none⟩)), (6, .int .i64 (-4)), (7, .pointer (some ⟨4, 0, none⟩)), (8, .pointer (some ⟨5, 0, none⟩)), (9, .agg #[.int .i64 0, .int .i64 0]), (10, .agg #[.int .i64 0, .int .i64 2]), (11, .agg #[.int .i64 0, .int .i64 2]), (12, .agg #[.int .i64 0, .int .i64 0]), (13, .agg #[.int .i64 2, .int .i64 0]), (14, .agg #[.int .i64 2, .int .i64 0])] [(1, ⟨[.int .i64 0, .int .i64 0], 27, true, 2⟩), (2, ⟨[.int .i64 0, .int .i64 2], 27, true, 2⟩), (3, ⟨[.int .i64 2, .int .i64 0], 27, true, 2⟩), (4, ⟨[.int .i64 0, .int .i64 2], 27, true, 2⟩), (5, ⟨[.int .i64 2, .int .i64 0], 27, true, 2⟩)] ?_
  refine aw_rt ?_
  exact en_ret [.int .i64 (-4)] (by kernel_rfl)

theorem au_129  :
    AC Tryz.prog 88 0 ([.int .i64 (-4)]) [] (.bool false) [] := by
  refine ac_in Tryz.func88 (fun w0 W pin => ?_)
  refine aw_p 3 (
    .a 1 1 <| .nil _ _) ?_
  refine aw_p 7 (
    .a 4 1 <| .nil _ _) ?_
  refine aw_rt ?_
  exact en_ret [.bool false] (by kernel_rfl)

theorem au_130  :
    AC Tryz.prog 75 0 ([.int .i64 (-4), .int .i64 0]) [] (.int .i64 (-1)) [] := by
  refine ac_in Tryz.func75 (fun w0 W pin => ?_)
  refine aw_p 3 (
    .a 1 1 <| .nil _ _) ?_
  refine aw_p 7 (
    .a 1 1 <| .p (does_c (au_129)) <| .a 1 1 <| .nil _ _) ?_
  refine aw_p 15 (
    .a 1 1 <| .p (does_c (au_18)) <| .a 1 1 <| .nil _ _) ?_
  refine aw_sq 30 31 ?_
  refine aw_p 61 (
    .a 1 1 <| .nil _ _) ?_
  refine aw_fl 123 ?_
  refine aw_sk ?_
  refine then_normal ?_
  refine aw_sq 62 63 ?_
  refine aw_p 125 (
    .a 1 1 <| .nil _ _) ?_
  refine aw_fl 251 ?_
  refine aw_sk ?_
  refine then_normal ?_
  refine aw_sq 126 127 ?_
  refine aw_p 253 (
    .a 3 1 <| .nil _ _) ?_
  refine aw_tr 506 ?_
  refine aw_p 1013 (
    .a 1 1 <| .nil _ _) ?_
  refine aw_rt ?_
  refine then_ret ?_
  exact en_ret [.int .i64 (-1)] (by kernel_rfl)

theorem au_131  :
    AC Tryz.prog 45 0 ([.agg #[.int .i64 0, .int .i64 0], .agg #[.int .i64 0, .int .i64 2], .agg #[.int .i64 2, .int .i64 0]]) [] (.int .i64 (-1)) [] := by
  refine ac_in Tryz.func45 (fun w0 W pin => ?_)
  refine aw_p 3 (
    .a 4 1 <| .nil _ _) ?_
  refine aw_p 7 (
    .a 3 4 <| .p (does_c (au_128)) <| .p (does_c (au_130)) <| .a 1 4 <| .nil _ _) ?_
  refine aw_rt ?_
  exact en_ret [.int .i64 (-1)] (by kernel_rfl)

theorem au_132  :
    AC Tryz.prog 88 0 ([.int .i64 4]) [] (.bool false) [] := by
  refine ac_in Tryz.func88 (fun w0 W pin => ?_)
  refine aw_p 3 (
    .a 1 1 <| .nil _ _) ?_
  refine aw_p 7 (
    .a 4 1 <| .nil _ _) ?_
  refine aw_rt ?_
  exact en_ret [.bool false] (by kernel_rfl)

theorem au_133  :
    AC Tryz.prog 75 0 ([.int .i64 4, .int .i64 0]) [] (.int .i64 1) [] := by
  refine ac_in Tryz.func75 (fun w0 W pin => ?_)
  refine aw_p 3 (
    .a 1 1 <| .nil _ _) ?_
  refine aw_p 7 (
    .a 1 1 <| .p (does_c (au_132)) <| .a 1 1 <| .nil _ _) ?_
  refine aw_p 15 (
    .a 1 1 <| .p (does_c (au_18)) <| .a 1 1 <| .nil _ _) ?_
  refine aw_sq 30 31 ?_
  refine aw_p 61 (
    .a 1 1 <| .nil _ _) ?_
  refine aw_fl 123 ?_
  refine aw_sk ?_
  refine then_normal ?_
  refine aw_sq 62 63 ?_
  refine aw_p 125 (
    .a 1 1 <| .nil _ _) ?_
  refine aw_fl 251 ?_
  refine aw_sk ?_
  refine then_normal ?_
  refine aw_sq 126 127 ?_
  refine aw_p 253 (
    .a 3 1 <| .nil _ _) ?_
  refine aw_fl 507 ?_
  refine aw_sk ?_
  refine then_normal ?_
  refine aw_sq 254 255 ?_
  refine aw_p 509 (
    .a 3 1 <| .nil _ _) ?_
  refine aw_tr 1018 ?_
  refine aw_p 2037 (
    .a 1 1 <| .nil _ _) ?_
  refine aw_rt ?_
  refine then_ret ?_
  exact en_ret [.int .i64 1] (by kernel_rfl)

theorem au_134  :
    AC Tryz.prog 45 0 ([.agg #[.int .i64 0, .int .i64 0], .agg #[.int .i64 2, .int .i64 0], .agg #[.int .i64 2, .int .i64 2]]) [] (.int .i64 1) [] := by
  refine ac_in Tryz.func45 (fun w0 W pin => ?_)
  refine aw_p 3 (
    .a 4 1 <| .nil _ _) ?_
  refine aw_p 7 (
    .a 3 4 <| .p (does_c (au_81)) <| .p (does_c (au_133)) <| .a 1 4 <| .nil _ _) ?_
  refine aw_rt ?_
  exact en_ret [.int .i64 1] (by kernel_rfl)

theorem au_135  :
    AC Tryz.prog 50 1 ([.slice none 0 0, .slice (some ⟨0, 0, none⟩) 4 0]) [(0, ⟨[.int .i64 0, .int .i64 0, .int .i64 0, .int .i64 2, .int .i64 2, .int .i64 0, .int .i64 2, .int .i64 2], 27, true, 2⟩)] (.slice (some ⟨1, 0, none⟩) 2 0) [(0, ⟨[.int .i64 0, .int .i64 0, .int .i64 0, .int .i64 2, .int .i64 2, .int .i64 0, .int .i64 2, .int .i64 2], 27, true, 2⟩), (1, ⟨[.int .i64 0, .int .i64 0, .int .i64 2, .int .i64 0, .int .i64 2, .int .i64 2], 27, true, 2⟩)] := by
  refine ac_in Tryz.func50 (fun w0 W pin => ?_)
  refine aw_p 3 (
    .a 1 1 <| .nil _ _) ?_
  refine aw_p 7 (
    .a 3 1 <| .nil _ _) ?_
  refine aw_sq 14 15 ?_
  refine aw_p 29 (
    .a 3 1 <| .nil _ _) ?_
  refine aw_bl 0 59 ?_
  refine aw_lp 119 ?_
  refine al_round ?_
  refine aw_p 239 (
    .a 1 1 <| .nil _ _) ?_
  refine aw_sq 478 479 ?_
  refine aw_tr 956 ?_
  refine aw_sk ?_
  refine then_normal ?_
  refine aw_sq 958 959 ?_
  refine aw_bl 1 1917 ?_
  refine aw_p 3835 (
    .a 4 1 <| .nil _ _) ?_
  refine aw_sq 7670 7671 ?_
  refine aw_bl 2 15341 ?_
  refine aw_lp 30683 ?_
  refine al_round ?_
  refine aw_sq 61366 61367 ?_
  refine aw_d 122733 (
    .a 22 2 <| .nil _ _) ?_
  refine aw_w [(0, .slice none 0 0), (1, .slice (some ⟨0, 0, none⟩) 4 0), (4, .slice none 0 0), (5, .int .i64 0), (7, .pointer (some ⟨1, 0, none⟩)), (8, .slice none 0 0), (9, .int .i64 0), (10, .slice (some ⟨0, 0, none⟩) 4 0), (11, .int .i64 4), (12, .int .i64 0), (13, .bool true), (14, .pointer (some ⟨0, 0, none⟩)), (15, .agg #[.int .i64 0, .int .i64 0]), (16, .slice none 0 0), (17, .int .i64 0), (18, .int .i64 0), (19, .int .i64 1), (20, .bool false), (21, .bool false), (37, .bool false)] [(0, ⟨[.int .i64 0, .int .i64 0, .int .i64 0, .int .i64 2, .int .i64 2, .int .i64 0, .int .i64 2, .int .i64 2], 27, true, 2⟩), (1, ⟨[.int .i64 0, .int .i64 0], 27, true, 2⟩)] ?_
  refine aw_fl 245467 ?_
  refine aw_ex 2 ?_
  refine then_exit ?_
  refine then_exit ?_
  refine block_exit ?_
  refine then_normal ?_
  refine aw_p1 (
    .a 3 2 <| .p (does_ap 3) <| .a 1 4 <| .nil _ _) ?_
  refine block_normal ?_
  refine then_normal ?_
  refine aw_p1 (
    .a 2 4 <| .nil _ _) ?_
  refine then_normal ?_
  refine al_round ?_
  refine aw_p 239 (
    .a 1 4 <| .nil _ _) ?_
  refine aw_sq 478 479 ?_
  refine aw_tr 956 ?_
  refine aw_sk ?_
  refine then_normal ?_
  refine aw_sq 958 959 ?_
  refine aw_bl 1 1917 ?_
  refine aw_p 3835 (
    .a 4 4 <| .nil _ _) ?_
  refine aw_sq 7670 7671 ?_
  refine aw_bl 2 15341 ?_
  refine aw_lp 30683 ?_
  refine al_round ?_
  refine aw_sq 61366 61367 ?_
  refine aw_d 122733 (
    .a 22 5 <| .nil _ _) ?_
  refine aw_w [(0, .slice (some ⟨3, 0, none⟩) 1 0), (1, .slice (some ⟨0, 0, none⟩) 4 0), (4, .slice none 0 0), (5, .int .i64 0), (7, .pointer (some ⟨4, 0, none⟩)), (8, .slice none 0 0), (9, .int .i64 0), (10, .slice (some ⟨0, 0, none⟩) 4 0), (11, .int .i64 4), (12, .int .i64 1), (13, .bool true), (14, .pointer (some ⟨0, 2, none⟩)), (15, .agg #[.int .i64 0, .int .i64 2]), (16, .slice (some ⟨3, 0, none⟩) 1 0), (17, .int .i64 1), (18, .int .i64 0), (19, .int .i64 1), (20, .bool false), (21, .bool false), (37, .bool false), (43, .slice none 0 0), (44, .agg #[.int .i64 0, .int .i64 0]), (45, .slice (some ⟨2, 0, none⟩) 1 0), (46, .slice (some ⟨3, 0, none⟩) 1 0), (47, .int .i64 1)] [(0, ⟨[.int .i64 0, .int .i64 0, .int .i64 0, .int .i64 2, .int .i64 2, .int .i64 0, .int .i64 2, .int .i64 2], 27, true, 2⟩), (2, ⟨[.int .i64 0, .int .i64 0], 27, true, 2⟩), (3, ⟨[.int .i64 0, .int .i64 0], 27, true, 2⟩), (4, ⟨[.int .i64 0, .int .i64 2], 27, true, 2⟩)] ?_
  refine aw_fl 245467 ?_
  refine aw_ex 2 ?_
  refine then_exit ?_
  refine then_exit ?_
  refine block_exit ?_
  refine then_normal ?_
  refine aw_p1 (
    .a 3 5 <| .p (does_ap 6) <| .a 1 7 <| .nil _ _) ?_
  refine block_normal ?_
  refine then_normal ?_
  refine aw_p1 (
    .a 2 7 <| .nil _ _) ?_
  refine then_normal ?_
  refine al_round ?_
  refine aw_p 239 (
    .a 1 7 <| .nil _ _) ?_
  refine aw_sq 478 479 ?_
  refine aw_tr 956 ?_
  refine aw_sk ?_
  refine then_normal ?_
  refine aw_sq 958 959 ?_
  refine aw_bl 1 1917 ?_
  refine aw_p 3835 (
    .a 4 7 <| .nil _ _) ?_
  refine aw_sq 7670 7671 ?_
  refine aw_bl 2 15341 ?_
  refine aw_lp 30683 ?_
  refine al_round ?_
  refine aw_sq 61366 61367 ?_
  refine aw_d 122733 (
    .a 19 8 <| .p (does_c (au_131)) <| .a 2 8 <| .nil _ _) ?_
  refine aw_w [(0, .slice (some ⟨6, 0, none⟩) 2 0), (1, .slice (some ⟨0, 0, none⟩) 4 0), (4, .slice none 0 0), (5, .int .i64 0), (7, .pointer (some ⟨7, 0, none⟩)), (8, .slice none 0 0), (9, .int .i64 0), (10, .slice (some ⟨0, 0, none⟩) 4 0), (11, .int .i64 4), (12, .int .i64 2), (13, .bool true), (14, .pointer (some ⟨0, 4, none⟩)), (15, .agg #[.int .i64 2, .int .i64 0]), (16, .slice (some ⟨6, 0, none⟩) 2 0), (17, .int .i64 2), (18, .int .i64 0), (19, .int .i64 1), (20, .bool true), (21, .bool true), (22, .slice (some ⟨6, 0, none⟩) 2 0), (23, .slice (some ⟨6, 0, none⟩) 2 0), (24, .int .i64 2), (25, .int .i64 0), (26, .pointer (some ⟨6, 0, none⟩)), (27, .agg #[.int .i64 0, .int .i64 0]), (28, .slice (some ⟨6, 0, none⟩) 2 0), (29, .slice (some ⟨6, 0, none⟩) 2 0), (30, .int .i64 2), (31, .int .i64 1), (32, .pointer (some ⟨6, 2, none⟩)), (33, .agg #[.int .i64 0, .int .i64 2]), (34, .agg #[.int .i64 2, .int .i64 0]), (35, .int .i64 (-1)), (36, .bool true), (37, .bool true), (44, .agg #[.int .i64 0, .int .i64 2]), (45, .slice (some ⟨5, 0, none⟩) 1 0), (46, .slice (some ⟨6, 0, none⟩) 2 0), (47, .int .i64 2)] [(0, ⟨[.int .i64 0, .int .i64 0, .int .i64 0, .int .i64 2, .int .i64 2, .int .i64 0, .int .i64 2, .int .i64 2], 27, true, 2⟩), (5, ⟨[.int .i64 0, .int .i64 2], 27, true, 2⟩), (6, ⟨[.int .i64 0, .int .i64 0, .int .i64 0, .int .i64 2], 27, true, 2⟩), (7, ⟨[.int .i64 2, .int .i64 0], 27, true, 2⟩)] ?_
  refine aw_tr 245466 ?_
  refine aw_sk ?_
  refine then_normal ?_
  refine aw_bl 3 122735 ?_
  refine aw_p1 (
    .a 4 8 <|
    .p (does_val (v' := .slice (some ⟨6, 0, none⟩) 1 0) (does_slice (t := 44) (x := .tmp 38) (lo := none) (hi := some (.tmp 41)) (k := 6) (off := 0) (n := 2) (c := 0) (z := 2) (l := 0) (h := 1) (m := 1) (b := ⟨[.int .i64 0, .int .i64 0, .int .i64 0, .int .i64 2], 27, true, 2⟩) (by kernel_rfl) (by kernel_rfl) (by kernel_rfl) (by kernel_rfl) (by kernel_rfl) (by kernel_rfl) (by kernel_rfl) (by kernel_rfl) (by decide) (by decide) (by decide) (by decide)) (by kernel_rfl)) <|
    .a 1 8 <| .nil _ _) ?_
  refine block_normal ?_
  refine then_normal ?_
  refine al_round ?_
  refine aw_sq 61366 61367 ?_
  refine aw_d 122733 (
    .a 22 8 <| .nil _ _) ?_
  refine aw_w [(0, .slice (some ⟨6, 0, none⟩) 1 0), (1, .slice (some ⟨0, 0, none⟩) 4 0), (4, .slice none 0 0), (5, .int .i64 0), (7, .pointer (some ⟨7, 0, none⟩)), (8, .slice none 0 0), (9, .int .i64 0), (10, .slice (some ⟨0, 0, none⟩) 4 0), (11, .int .i64 4), (12, .int .i64 2), (13, .bool true), (14, .pointer (some ⟨0, 4, none⟩)), (15, .agg #[.int .i64 2, .int .i64 0]), (16, .slice (some ⟨6, 0, none⟩) 1 0), (17, .int .i64 1), (18, .int .i64 0), (19, .int .i64 1), (20, .bool false), (21, .bool false), (37, .bool false), (38, .slice (some ⟨6, 0, none⟩) 2 0), (39, .slice (some ⟨6, 0, none⟩) 2 0), (40, .int .i64 2), (41, .int .i64 1), (42, .slice (some ⟨6, 0, none⟩) 1 0), (44, .agg #[.int .i64 0, .int .i64 2]), (45, .slice (some ⟨5, 0, none⟩) 1 0), (46, .slice (some ⟨6, 0, none⟩) 2 0), (47, .int .i64 2)] [(0, ⟨[.int .i64 0, .int .i64 0, .int .i64 0, .int .i64 2, .int .i64 2, .int .i64 0, .int .i64 2, .int .i64 2], 27, true, 2⟩), (5, ⟨[.int .i64 0, .int .i64 2], 27, true, 2⟩), (6, ⟨[.int .i64 0, .int .i64 0, .int .i64 0, .int .i64 2], 27, true, 2⟩), (7, ⟨[.int .i64 2, .int .i64 0], 27, true, 2⟩)] ?_
  refine aw_fl 245467 ?_
  refine aw_ex 2 ?_
  refine then_exit ?_
  refine then_exit ?_
  refine block_exit ?_
  refine then_normal ?_
  refine aw_p1 (
    .a 3 8 <| .p (does_ap 9) <| .a 1 10 <| .nil _ _) ?_
  refine block_normal ?_
  refine then_normal ?_
  refine aw_p1 (
    .a 2 10 <| .nil _ _) ?_
  refine then_normal ?_
  refine al_round ?_
  refine aw_p 239 (
    .a 1 10 <| .nil _ _) ?_
  refine aw_sq 478 479 ?_
  refine aw_tr 956 ?_
  refine aw_sk ?_
  refine then_normal ?_
  refine aw_sq 958 959 ?_
  refine aw_bl 1 1917 ?_
  refine aw_p 3835 (
    .a 4 10 <| .nil _ _) ?_
  refine aw_sq 7670 7671 ?_
  refine aw_bl 2 15341 ?_
  refine aw_lp 30683 ?_
  refine al_round ?_
  refine aw_sq 61366 61367 ?_
  refine aw_d 122733 (
    .a 19 11 <| .p (does_c (au_134)) <| .a 2 11 <| .nil _ _) ?_
  refine aw_w [(0, .slice (some ⟨9, 0, none⟩) 2 0), (1, .slice (some ⟨0, 0, none⟩) 4 0), (4, .slice none 0 0), (5, .int .i64 0), (7, .pointer (some ⟨10, 0, none⟩)), (8, .slice none 0 0), (9, .int .i64 0), (10, .slice (some ⟨0, 0, none⟩) 4 0), (11, .int .i64 4), (12, .int .i64 3), (13, .bool true), (14, .pointer (some ⟨0, 6, none⟩)), (15, .agg #[.int .i64 2, .int .i64 2]), (16, .slice (some ⟨9, 0, none⟩) 2 0), (17, .int .i64 2), (18, .int .i64 0), (19, .int .i64 1), (20, .bool true), (21, .bool true), (22, .slice (some ⟨9, 0, none⟩) 2 0), (23, .slice (some ⟨9, 0, none⟩) 2 0), (24, .int .i64 2), (25, .int .i64 0), (26, .pointer (some ⟨9, 0, none⟩)), (27, .agg #[.int .i64 0, .int .i64 0]), (28, .slice (some ⟨9, 0, none⟩) 2 0), (29, .slice (some ⟨9, 0, none⟩) 2 0), (30, .int .i64 2), (31, .int .i64 1), (32, .pointer (some ⟨9, 2, none⟩)), (33, .agg #[.int .i64 2, .int .i64 0]), (34, .agg #[.int .i64 2, .int .i64 2]), (35, .int .i64 1), (36, .bool false), (37, .bool false), (40, .int .i64 2), (41, .int .i64 1), (44, .agg #[.int .i64 2, .int .i64 0]), (45, .slice (some ⟨8, 0, none⟩) 1 0), (46, .slice (some ⟨9, 0, none⟩) 2 0), (47, .int .i64 3)] [(0, ⟨[.int .i64 0, .int .i64 0, .int .i64 0, .int .i64 2, .int .i64 2, .int .i64 0, .int .i64 2, .int .i64 2], 27, true, 2⟩), (8, ⟨[.int .i64 2, .int .i64 0], 27, true, 2⟩), (9, ⟨[.int .i64 0, .int .i64 0, .int .i64 2, .int .i64 0], 27, true, 2⟩), (10, ⟨[.int .i64 2, .int .i64 2], 27, true, 2⟩)] ?_
  refine aw_fl 245467 ?_
  refine aw_ex 2 ?_
  refine then_exit ?_
  refine then_exit ?_
  refine block_exit ?_
  refine then_normal ?_
  refine aw_p1 (
    .a 3 11 <| .p (does_ap 12) <| .a 1 13 <| .nil _ _) ?_
  refine block_normal ?_
  refine then_normal ?_
  refine aw_p1 (
    .a 2 13 <| .nil _ _) ?_
  refine then_normal ?_
  refine al_round ?_
  refine aw_p 239 (
    .a 1 13 <| .nil _ _) ?_
  refine aw_sq 478 479 ?_
  refine aw_fl 957 ?_
  refine aw_ex 0 ?_
  refine then_exit ?_
  refine then_exit ?_
  refine block_exit ?_
  refine then_normal ?_
  refine aw_p 31 (
    .a 4 13 <|
    .p (does_val (v' := .slice (some ⟨12, 0, none⟩) 2 0) (does_slice (t := 44) (x := .tmp 48) (lo := none) (hi := some (.tmp 51)) (k := 12) (off := 0) (n := 3) (c := 0) (z := 2) (l := 0) (h := 2) (m := 2) (b := ⟨[.int .i64 0, .int .i64 0, .int .i64 2, .int .i64 0, .int .i64 2, .int .i64 2], 27, true, 2⟩) (by kernel_rfl) (by kernel_rfl) (by kernel_rfl) (by kernel_rfl) (by kernel_rfl) (by kernel_rfl) (by kernel_rfl) (by kernel_rfl) (by decide) (by decide) (by decide) (by decide)) (by kernel_rfl)) <|
    .a 1 13 <| .nil _ _) ?_
  refine aw_r [(1, 12)] [(4, .slice (some ⟨12, 0, none⟩) 2 0)] [(0, ⟨[.int .i64 0, .int .i64 0, .int .i64 0, .int .i64 2, .int .i64 2, .int .i64 0, .int .i64 2, .int .i64 2], 27, true, 2⟩), (12, ⟨[.int .i64 0, .int .i64 0, .int .i64 2, .int .i64 0, .int .i64 2, .int .i64 2], 27, true, 2⟩)] [(4, .slice (some ⟨1, 0, none⟩) 2 0)] [(0, ⟨[.int .i64 0, .int .i64 0, .int .i64 0, .int .i64 2, .int .i64 2, .int .i64 0, .int .i64 2, .int .i64 2], 27, true, 2⟩), (1, ⟨[.int .i64 0, .int .i64 0, .int .i64 2, .int .i64 0, .int .i64 2, .int .i64 2], 27, true, 2⟩)] ?_ ⟨rfl, (.slice _ _ _ _ _ rfl), trivial⟩ ⟨rfl, ⟨rfl, rfl, rfl, (.flats (by kernel_rfl))⟩, rfl, ⟨rfl, rfl, rfl, (.flats (by kernel_rfl))⟩, trivial⟩
  refine aw_rt ?_
  exact en_ret [.slice (some ⟨1, 0, none⟩) 2 0] (by kernel_rfl)

theorem au_136  :
    AC Tryz.prog 51 1 ([.slice (some ⟨0, 0, none⟩) 4 0]) [(0, ⟨[.int .i64 0, .int .i64 0, .int .i64 0, .int .i64 2, .int .i64 2, .int .i64 0, .int .i64 2, .int .i64 2], 27, true, 2⟩)] (.tuple #[]) [(0, ⟨[.int .i64 2, .int .i64 2, .int .i64 2, .int .i64 0, .int .i64 0, .int .i64 2, .int .i64 0, .int .i64 0], 27, true, 2⟩)] := by
  refine ac_in Tryz.func51 (fun w0 W pin => ?_)
  refine aw_p 3 (
    .a 5 1 <| .nil _ _) ?_
  refine aw_bl 0 7 ?_
  refine aw_lp 15 ?_
  refine al_round ?_
  refine aw_sq 30 31 ?_
  refine aw_p 61 (
    .a 3 1 <| .nil _ _) ?_
  refine aw_tr 122 ?_
  refine aw_sk ?_
  refine then_normal ?_
  refine aw_sq 62 63 ?_
  refine aw_bl 1 125 ?_
  refine aw_d1 (
    .a 16 1 <| .nil _ _) ?_
  refine block_normal ?_
  refine then_normal ?_
  refine aw_p1 (
    .a 6 1 <| .nil _ _) ?_
  refine then_normal ?_
  refine al_round ?_
  refine aw_sq 30 31 ?_
  refine aw_p 61 (
    .a 3 1 <| .nil _ _) ?_
  refine aw_w [(0, .slice (some ⟨0, 0, none⟩) 4 0), (2, .int .i64 1), (3, .int .i64 2), (4, .slice (some ⟨0, 0, none⟩) 4 0), (5, .int .i64 4), (6, .int .i64 3), (7, .int .i64 1), (8, .int .i64 2), (9, .bool true), (10, .int .i64 0), (11, .int .i64 1), (12, .int .i64 3), (13, .int .i64 2), (14, .slice (some ⟨0, 0, none⟩) 4 0), (15, .int .i64 0), (16, .slice (some ⟨0, 0, none⟩) 4 0), (17, .int .i64 3), (18, .slice (some ⟨0, 0, none⟩) 4 0), (19, .int .i64 3), (20, .pointer (some ⟨0, 6, none⟩)), (21, .agg #[.int .i64 2, .int .i64 2]), (22, .slice (some ⟨0, 0, none⟩) 4 0), (23, .int .i64 0), (24, .pointer (some ⟨0, 0, none⟩)), (25, .agg #[.int .i64 0, .int .i64 0]), (26, .pointer (some ⟨0, 0, none⟩)), (27, .pointer (some ⟨0, 6, none⟩))] [(0, ⟨[.int .i64 2, .int .i64 2, .int .i64 0, .int .i64 2, .int .i64 2, .int .i64 0, .int .i64 0, .int .i64 0], 27, true, 2⟩)] ?_
  refine aw_tr 122 ?_
  refine aw_sk ?_
  refine then_normal ?_
  refine aw_sq 62 63 ?_
  refine aw_bl 1 125 ?_
  refine aw_d1 (
    .a 16 1 <| .nil _ _) ?_
  refine block_normal ?_
  refine then_normal ?_
  refine aw_p1 (
    .a 6 1 <| .nil _ _) ?_
  refine then_normal ?_
  refine al_round ?_
  refine aw_sq 30 31 ?_
  refine aw_p 61 (
    .a 3 1 <| .nil _ _) ?_
  refine aw_w [(0, .slice (some ⟨0, 0, none⟩) 4 0), (2, .int .i64 2), (3, .int .i64 1), (4, .slice (some ⟨0, 0, none⟩) 4 0), (5, .int .i64 4), (6, .int .i64 3), (7, .int .i64 2), (8, .int .i64 1), (9, .bool false), (10, .int .i64 1), (11, .int .i64 2), (12, .int .i64 2), (13, .int .i64 1), (14, .slice (some ⟨0, 0, none⟩) 4 0), (15, .int .i64 1), (16, .slice (some ⟨0, 0, none⟩) 4 0), (17, .int .i64 2), (18, .slice (some ⟨0, 0, none⟩) 4 0), (19, .int .i64 2), (20, .pointer (some ⟨0, 4, none⟩)), (21, .agg #[.int .i64 2, .int .i64 0]), (22, .slice (some ⟨0, 0, none⟩) 4 0), (23, .int .i64 1), (24, .pointer (some ⟨0, 2, none⟩)), (25, .agg #[.int .i64 0, .int .i64 2]), (26, .pointer (some ⟨0, 2, none⟩)), (27, .pointer (some ⟨0, 4, none⟩))] [(0, ⟨[.int .i64 2, .int .i64 2, .int .i64 2, .int .i64 0, .int .i64 0, .int .i64 2, .int .i64 0, .int .i64 0], 27, true, 2⟩)] ?_
  refine aw_fl 123 ?_
  refine aw_ex 0 ?_
  refine then_exit ?_
  refine then_exit ?_
  refine block_exit ?_
  exact en_normal [] (by kernel_rfl)

theorem au_137  :
    AC Tryz.prog 71 0 ([.agg #[.int .i64 2, .int .i64 2], .agg #[.int .i64 2, .int .i64 0]]) [] (.agg #[.int .i64 0, .int .i64 (-2)]) [] := by
  refine ac_in Tryz.func71 (fun w0 W pin => ?_)
  refine aw_p 3 (
    .a 3 1 <| .nil _ _) ?_
  refine aw_d 7 (
    .a 1 4 <| .p (does_c (au_79)) <| .a 1 4 <| .p (does_c (au_77)) <| .a 2 4 <| .nil _ _) ?_
  refine aw_p 15 (
    .a 12 4 <| .nil _ _) ?_
  refine aw_rt ?_
  exact en_ret [.agg #[.int .i64 0, .int .i64 (-2)]] (by kernel_rfl)

theorem au_138  :
    AC Tryz.prog 42 0 ([.agg #[.int .i64 2, .int .i64 2], .agg #[.int .i64 2, .int .i64 0], .agg #[.int .i64 0, .int .i64 2]]) [] (.int .i64 (-4)) [] := by
  refine ac_in Tryz.func42 (fun w0 W pin => ?_)
  refine aw_p 3 (
    .a 4 1 <| .nil _ _) ?_
  refine aw_d 7 (
    .a 2 4 <| .p (does_c (au_137)) <| .a 2 4 <| .p (does_c (au_96)) <| .a 4 4 <| .nil _ _) ?_
  refine aw_p 15 (
    .a 12 6 <| .nil _ _) ?_
  refine aw_w [(0, .agg #[.int .i64 2, .int .i64 2]), (1, .agg #[.int .i64 2, .int .i64 0]), (2, .agg #[.int .i64 0, .int .i64 2]), (3, .pointer (some ⟨1, 0, none⟩)), (4, .pointer (some ⟨2, 0, none⟩)), (5, .pointer (some ⟨3, 0, none⟩)), (6, .int .i64 (-4)), (7, .pointer (some ⟨4, 0, none⟩)), (8, .pointer (some ⟨5, 0, none⟩)), (9, .agg #[.int .i64 2, .int .i64 2]), (10, .agg #[.int .i64 2, .int .i64 0]), (11, .agg #[.int .i64 0, .int .i64 (-2)]), (12, .agg #[.int .i64 2, .int .i64 2]), (13, .agg #[.int .i64 0, .int .i64 2]), (14, .agg #[.int .i64 (-2), .int .i64 0])] [(1, ⟨[.int .i64 2, .int .i64 2], 27, true, 2⟩), (2, ⟨[.int .i64 2, .int .i64 0], 27, true, 2⟩), (3, ⟨[.int .i64 0, .int .i64 2], 27, true, 2⟩), (4, ⟨[.int .i64 0, .int .i64 (-2)], 27, true, 2⟩), (5, ⟨[.int .i64 (-2), .int .i64 0], 27, true, 2⟩)] ?_
  refine aw_rt ?_
  exact en_ret [.int .i64 (-4)] (by kernel_rfl)

theorem au_139  :
    AC Tryz.prog 45 0 ([.agg #[.int .i64 2, .int .i64 2], .agg #[.int .i64 2, .int .i64 0], .agg #[.int .i64 0, .int .i64 2]]) [] (.int .i64 (-1)) [] := by
  refine ac_in Tryz.func45 (fun w0 W pin => ?_)
  refine aw_p 3 (
    .a 4 1 <| .nil _ _) ?_
  refine aw_p 7 (
    .a 3 4 <| .p (does_c (au_138)) <| .p (does_c (au_130)) <| .a 1 4 <| .nil _ _) ?_
  refine aw_rt ?_
  exact en_ret [.int .i64 (-1)] (by kernel_rfl)

theorem au_140  :
    AC Tryz.prog 71 0 ([.agg #[.int .i64 2, .int .i64 2], .agg #[.int .i64 0, .int .i64 0]]) [] (.agg #[.int .i64 (-2), .int .i64 (-2)]) [] := by
  refine ac_in Tryz.func71 (fun w0 W pin => ?_)
  refine aw_p 3 (
    .a 3 1 <| .nil _ _) ?_
  refine aw_d 7 (
    .a 1 4 <| .p (does_c (au_79)) <| .a 1 4 <| .p (does_c (au_9)) <| .a 2 4 <| .nil _ _) ?_
  refine aw_p 15 (
    .a 12 4 <| .nil _ _) ?_
  refine aw_rt ?_
  exact en_ret [.agg #[.int .i64 (-2), .int .i64 (-2)]] (by kernel_rfl)

theorem au_141  :
    AC Tryz.prog 42 0 ([.agg #[.int .i64 2, .int .i64 2], .agg #[.int .i64 0, .int .i64 2], .agg #[.int .i64 0, .int .i64 0]]) [] (.int .i64 4) [] := by
  refine ac_in Tryz.func42 (fun w0 W pin => ?_)
  refine aw_p 3 (
    .a 4 1 <| .nil _ _) ?_
  refine aw_d 7 (
    .a 2 4 <| .p (does_c (au_96)) <| .a 2 4 <| .p (does_c (au_140)) <| .a 4 4 <| .nil _ _) ?_
  refine aw_p 15 (
    .a 12 6 <| .nil _ _) ?_
  refine aw_w [(0, .agg #[.int .i64 2, .int .i64 2]), (1, .agg #[.int .i64 0, .int .i64 2]), (2, .agg #[.int .i64 0, .int .i64 0]), (3, .pointer (some ⟨1, 0, none⟩)), (4, .pointer (some ⟨2, 0, none⟩)), (5, .pointer (some ⟨3, 0, none⟩)), (6, .int .i64 4), (7, .pointer (some ⟨4, 0, none⟩)), (8, .pointer (some ⟨5, 0, none⟩)), (9, .agg #[.int .i64 2, .int .i64 2]), (10, .agg #[.int .i64 0, .int .i64 2]), (11, .agg #[.int .i64 (-2), .int .i64 0]), (12, .agg #[.int .i64 2, .int .i64 2]), (13, .agg #[.int .i64 0, .int .i64 0]), (14, .agg #[.int .i64 (-2), .int .i64 (-2)])] [(1, ⟨[.int .i64 2, .int .i64 2], 27, true, 2⟩), (2, ⟨[.int .i64 0, .int .i64 2], 27, true, 2⟩), (3, ⟨[.int .i64 0, .int .i64 0], 27, true, 2⟩), (4, ⟨[.int .i64 (-2), .int .i64 0], 27, true, 2⟩), (5, ⟨[.int .i64 (-2), .int .i64 (-2)], 27, true, 2⟩)] ?_
  refine aw_rt ?_
  exact en_ret [.int .i64 4] (by kernel_rfl)

theorem au_142  :
    AC Tryz.prog 45 0 ([.agg #[.int .i64 2, .int .i64 2], .agg #[.int .i64 0, .int .i64 2], .agg #[.int .i64 0, .int .i64 0]]) [] (.int .i64 1) [] := by
  refine ac_in Tryz.func45 (fun w0 W pin => ?_)
  refine aw_p 3 (
    .a 4 1 <| .nil _ _) ?_
  refine aw_p 7 (
    .a 3 4 <| .p (does_c (au_141)) <| .p (does_c (au_133)) <| .a 1 4 <| .nil _ _) ?_
  refine aw_rt ?_
  exact en_ret [.int .i64 1] (by kernel_rfl)

theorem au_143  :
    AC Tryz.prog 50 2 ([.slice (some ⟨0, 0, none⟩) 2 0, .slice (some ⟨1, 0, none⟩) 4 0]) [(0, ⟨[.int .i64 0, .int .i64 0, .int .i64 2, .int .i64 0, .int .i64 2, .int .i64 2], 27, true, 2⟩), (1, ⟨[.int .i64 2, .int .i64 2, .int .i64 2, .int .i64 0, .int .i64 0, .int .i64 2, .int .i64 0, .int .i64 0], 27, true, 2⟩)] (.slice (some ⟨2, 0, none⟩) 4 0) [(1, ⟨[.int .i64 2, .int .i64 2, .int .i64 2, .int .i64 0, .int .i64 0, .int .i64 2, .int .i64 0, .int .i64 0], 27, true, 2⟩), (2, ⟨[.int .i64 0, .int .i64 0, .int .i64 2, .int .i64 0, .int .i64 2, .int .i64 2, .int .i64 0, .int .i64 2, .int .i64 0, .int .i64 0], 27, true, 2⟩)] := by
  refine ac_in Tryz.func50 (fun w0 W pin => ?_)
  refine aw_p 3 (
    .a 1 2 <| .nil _ _) ?_
  refine aw_p 7 (
    .a 3 2 <| .nil _ _) ?_
  refine aw_sq 14 15 ?_
  refine aw_p 29 (
    .a 3 2 <| .nil _ _) ?_
  refine aw_bl 0 59 ?_
  refine aw_lp 119 ?_
  refine al_round ?_
  refine aw_p 239 (
    .a 1 2 <| .nil _ _) ?_
  refine aw_sq 478 479 ?_
  refine aw_tr 956 ?_
  refine aw_sk ?_
  refine then_normal ?_
  refine aw_sq 958 959 ?_
  refine aw_bl 1 1917 ?_
  refine aw_p 3835 (
    .a 4 2 <| .nil _ _) ?_
  refine aw_sq 7670 7671 ?_
  refine aw_bl 2 15341 ?_
  refine aw_lp 30683 ?_
  refine al_round ?_
  refine aw_sq 61366 61367 ?_
  refine aw_d 122733 (
    .a 22 3 <| .nil _ _) ?_
  refine aw_w [(0, .slice (some ⟨0, 0, none⟩) 2 0), (1, .slice (some ⟨1, 0, none⟩) 4 0), (4, .slice none 0 0), (5, .int .i64 2), (7, .pointer (some ⟨2, 0, none⟩)), (8, .slice (some ⟨0, 0, none⟩) 2 0), (9, .int .i64 2), (10, .slice (some ⟨1, 0, none⟩) 4 0), (11, .int .i64 4), (12, .int .i64 0), (13, .bool true), (14, .pointer (some ⟨1, 0, none⟩)), (15, .agg #[.int .i64 2, .int .i64 2]), (16, .slice (some ⟨0, 0, none⟩) 2 0), (17, .int .i64 2), (18, .int .i64 2), (19, .int .i64 3), (20, .bool false), (21, .bool false), (37, .bool false)] [(0, ⟨[.int .i64 0, .int .i64 0, .int .i64 2, .int .i64 0, .int .i64 2, .int .i64 2], 27, true, 2⟩), (1, ⟨[.int .i64 2, .int .i64 2, .int .i64 2, .int .i64 0, .int .i64 0, .int .i64 2, .int .i64 0, .int .i64 0], 27, true, 2⟩), (2, ⟨[.int .i64 2, .int .i64 2], 27, true, 2⟩)] ?_
  refine aw_fl 245467 ?_
  refine aw_ex 2 ?_
  refine then_exit ?_
  refine then_exit ?_
  refine block_exit ?_
  refine then_normal ?_
  refine aw_p1 (
    .a 3 3 <| .p (does_ap 4) <| .a 1 5 <| .nil _ _) ?_
  refine block_normal ?_
  refine then_normal ?_
  refine aw_p1 (
    .a 2 5 <| .nil _ _) ?_
  refine then_normal ?_
  refine al_round ?_
  refine aw_p 239 (
    .a 1 5 <| .nil _ _) ?_
  refine aw_sq 478 479 ?_
  refine aw_tr 956 ?_
  refine aw_sk ?_
  refine then_normal ?_
  refine aw_sq 958 959 ?_
  refine aw_bl 1 1917 ?_
  refine aw_p 3835 (
    .a 4 5 <| .nil _ _) ?_
  refine aw_sq 7670 7671 ?_
  refine aw_bl 2 15341 ?_
  refine aw_lp 30683 ?_
  refine al_round ?_
  refine aw_sq 61366 61367 ?_
  refine aw_d 122733 (
    .a 22 6 <| .nil _ _) ?_
  refine aw_w [(0, .slice (some ⟨4, 0, none⟩) 3 0), (1, .slice (some ⟨1, 0, none⟩) 4 0), (4, .slice none 0 0), (5, .int .i64 2), (7, .pointer (some ⟨5, 0, none⟩)), (8, .slice (some ⟨0, 0, none⟩) 2 0), (9, .int .i64 2), (10, .slice (some ⟨1, 0, none⟩) 4 0), (11, .int .i64 4), (12, .int .i64 1), (13, .bool true), (14, .pointer (some ⟨1, 2, none⟩)), (15, .agg #[.int .i64 2, .int .i64 0]), (16, .slice (some ⟨4, 0, none⟩) 3 0), (17, .int .i64 3), (18, .int .i64 2), (19, .int .i64 3), (20, .bool false), (21, .bool false), (37, .bool false), (43, .slice (some ⟨0, 0, none⟩) 2 0), (44, .agg #[.int .i64 2, .int .i64 2]), (45, .slice (some ⟨3, 0, none⟩) 1 0), (46, .slice (some ⟨4, 0, none⟩) 3 0), (47, .int .i64 1)] [(1, ⟨[.int .i64 2, .int .i64 2, .int .i64 2, .int .i64 0, .int .i64 0, .int .i64 2, .int .i64 0, .int .i64 0], 27, true, 2⟩), (3, ⟨[.int .i64 2, .int .i64 2], 27, true, 2⟩), (4, ⟨[.int .i64 0, .int .i64 0, .int .i64 2, .int .i64 0, .int .i64 2, .int .i64 2], 27, true, 2⟩), (5, ⟨[.int .i64 2, .int .i64 0], 27, true, 2⟩)] ?_
  refine aw_fl 245467 ?_
  refine aw_ex 2 ?_
  refine then_exit ?_
  refine then_exit ?_
  refine block_exit ?_
  refine then_normal ?_
  refine aw_p1 (
    .a 3 6 <| .p (does_ap 7) <| .a 1 8 <| .nil _ _) ?_
  refine block_normal ?_
  refine then_normal ?_
  refine aw_p1 (
    .a 2 8 <| .nil _ _) ?_
  refine then_normal ?_
  refine al_round ?_
  refine aw_p 239 (
    .a 1 8 <| .nil _ _) ?_
  refine aw_sq 478 479 ?_
  refine aw_tr 956 ?_
  refine aw_sk ?_
  refine then_normal ?_
  refine aw_sq 958 959 ?_
  refine aw_bl 1 1917 ?_
  refine aw_p 3835 (
    .a 4 8 <| .nil _ _) ?_
  refine aw_sq 7670 7671 ?_
  refine aw_bl 2 15341 ?_
  refine aw_lp 30683 ?_
  refine al_round ?_
  refine aw_sq 61366 61367 ?_
  refine aw_d 122733 (
    .a 19 9 <| .p (does_c (au_139)) <| .a 2 9 <| .nil _ _) ?_
  refine aw_w [(0, .slice (some ⟨7, 0, none⟩) 4 0), (1, .slice (some ⟨1, 0, none⟩) 4 0), (4, .slice none 0 0), (5, .int .i64 2), (7, .pointer (some ⟨8, 0, none⟩)), (8, .slice (some ⟨0, 0, none⟩) 2 0), (9, .int .i64 2), (10, .slice (some ⟨1, 0, none⟩) 4 0), (11, .int .i64 4), (12, .int .i64 2), (13, .bool true), (14, .pointer (some ⟨1, 4, none⟩)), (15, .agg #[.int .i64 0, .int .i64 2]), (16, .slice (some ⟨7, 0, none⟩) 4 0), (17, .int .i64 4), (18, .int .i64 2), (19, .int .i64 3), (20, .bool true), (21, .bool true), (22, .slice (some ⟨7, 0, none⟩) 4 0), (23, .slice (some ⟨7, 0, none⟩) 4 0), (24, .int .i64 4), (25, .int .i64 2), (26, .pointer (some ⟨7, 4, none⟩)), (27, .agg #[.int .i64 2, .int .i64 2]), (28, .slice (some ⟨7, 0, none⟩) 4 0), (29, .slice (some ⟨7, 0, none⟩) 4 0), (30, .int .i64 4), (31, .int .i64 3), (32, .pointer (some ⟨7, 6, none⟩)), (33, .agg #[.int .i64 2, .int .i64 0]), (34, .agg #[.int .i64 0, .int .i64 2]), (35, .int .i64 (-1)), (36, .bool true), (37, .bool true), (44, .agg #[.int .i64 2, .int .i64 0]), (45, .slice (some ⟨6, 0, none⟩) 1 0), (46, .slice (some ⟨7, 0, none⟩) 4 0), (47, .int .i64 2)] [(1, ⟨[.int .i64 2, .int .i64 2, .int .i64 2, .int .i64 0, .int .i64 0, .int .i64 2, .int .i64 0, .int .i64 0], 27, true, 2⟩), (6, ⟨[.int .i64 2, .int .i64 0], 27, true, 2⟩), (7, ⟨[.int .i64 0, .int .i64 0, .int .i64 2, .int .i64 0, .int .i64 2, .int .i64 2, .int .i64 2, .int .i64 0], 27, true, 2⟩), (8, ⟨[.int .i64 0, .int .i64 2], 27, true, 2⟩)] ?_
  refine aw_tr 245466 ?_
  refine aw_sk ?_
  refine then_normal ?_
  refine aw_bl 3 122735 ?_
  refine aw_p1 (
    .a 4 9 <|
    .p (does_val (v' := .slice (some ⟨7, 0, none⟩) 3 0) (does_slice (t := 44) (x := .tmp 38) (lo := none) (hi := some (.tmp 41)) (k := 7) (off := 0) (n := 4) (c := 0) (z := 2) (l := 0) (h := 3) (m := 3) (b := ⟨[.int .i64 0, .int .i64 0, .int .i64 2, .int .i64 0, .int .i64 2, .int .i64 2, .int .i64 2, .int .i64 0], 27, true, 2⟩) (by kernel_rfl) (by kernel_rfl) (by kernel_rfl) (by kernel_rfl) (by kernel_rfl) (by kernel_rfl) (by kernel_rfl) (by kernel_rfl) (by decide) (by decide) (by decide) (by decide)) (by kernel_rfl)) <|
    .a 1 9 <| .nil _ _) ?_
  refine block_normal ?_
  refine then_normal ?_
  refine al_round ?_
  refine aw_sq 61366 61367 ?_
  refine aw_d 122733 (
    .a 22 9 <| .nil _ _) ?_
  refine aw_w [(0, .slice (some ⟨7, 0, none⟩) 3 0), (1, .slice (some ⟨1, 0, none⟩) 4 0), (4, .slice none 0 0), (5, .int .i64 2), (7, .pointer (some ⟨8, 0, none⟩)), (8, .slice (some ⟨0, 0, none⟩) 2 0), (9, .int .i64 2), (10, .slice (some ⟨1, 0, none⟩) 4 0), (11, .int .i64 4), (12, .int .i64 2), (13, .bool true), (14, .pointer (some ⟨1, 4, none⟩)), (15, .agg #[.int .i64 0, .int .i64 2]), (16, .slice (some ⟨7, 0, none⟩) 3 0), (17, .int .i64 3), (18, .int .i64 2), (19, .int .i64 3), (20, .bool false), (21, .bool false), (37, .bool false), (38, .slice (some ⟨7, 0, none⟩) 4 0), (39, .slice (some ⟨7, 0, none⟩) 4 0), (40, .int .i64 4), (41, .int .i64 3), (42, .slice (some ⟨7, 0, none⟩) 3 0), (44, .agg #[.int .i64 2, .int .i64 0]), (45, .slice (some ⟨6, 0, none⟩) 1 0), (46, .slice (some ⟨7, 0, none⟩) 4 0), (47, .int .i64 2)] [(1, ⟨[.int .i64 2, .int .i64 2, .int .i64 2, .int .i64 0, .int .i64 0, .int .i64 2, .int .i64 0, .int .i64 0], 27, true, 2⟩), (6, ⟨[.int .i64 2, .int .i64 0], 27, true, 2⟩), (7, ⟨[.int .i64 0, .int .i64 0, .int .i64 2, .int .i64 0, .int .i64 2, .int .i64 2, .int .i64 2, .int .i64 0], 27, true, 2⟩), (8, ⟨[.int .i64 0, .int .i64 2], 27, true, 2⟩)] ?_
  refine aw_fl 245467 ?_
  refine aw_ex 2 ?_
  refine then_exit ?_
  refine then_exit ?_
  refine block_exit ?_
  refine then_normal ?_
  refine aw_p1 (
    .a 3 9 <| .p (does_ap 10) <| .a 1 11 <| .nil _ _) ?_
  refine block_normal ?_
  refine then_normal ?_
  refine aw_p1 (
    .a 2 11 <| .nil _ _) ?_
  refine then_normal ?_
  refine al_round ?_
  refine aw_p 239 (
    .a 1 11 <| .nil _ _) ?_
  refine aw_sq 478 479 ?_
  refine aw_tr 956 ?_
  refine aw_sk ?_
  refine then_normal ?_
  refine aw_sq 958 959 ?_
  refine aw_bl 1 1917 ?_
  refine aw_p 3835 (
    .a 4 11 <| .nil _ _) ?_
  refine aw_sq 7670 7671 ?_
  refine aw_bl 2 15341 ?_
  refine aw_lp 30683 ?_
  refine al_round ?_
  refine aw_sq 61366 61367 ?_
  refine aw_d 122733 (
    .a 19 12 <| .p (does_c (au_142)) <| .a 2 12 <| .nil _ _) ?_
  refine aw_w [(0, .slice (some ⟨10, 0, none⟩) 4 0), (1, .slice (some ⟨1, 0, none⟩) 4 0), (4, .slice none 0 0), (5, .int .i64 2), (7, .pointer (some ⟨11, 0, none⟩)), (8, .slice (some ⟨0, 0, none⟩) 2 0), (9, .int .i64 2), (10, .slice (some ⟨1, 0, none⟩) 4 0), (11, .int .i64 4), (12, .int .i64 3), (13, .bool true), (14, .pointer (some ⟨1, 6, none⟩)), (15, .agg #[.int .i64 0, .int .i64 0]), (16, .slice (some ⟨10, 0, none⟩) 4 0), (17, .int .i64 4), (18, .int .i64 2), (19, .int .i64 3), (20, .bool true), (21, .bool true), (22, .slice (some ⟨10, 0, none⟩) 4 0), (23, .slice (some ⟨10, 0, none⟩) 4 0), (24, .int .i64 4), (25, .int .i64 2), (26, .pointer (some ⟨10, 4, none⟩)), (27, .agg #[.int .i64 2, .int .i64 2]), (28, .slice (some ⟨10, 0, none⟩) 4 0), (29, .slice (some ⟨10, 0, none⟩) 4 0), (30, .int .i64 4), (31, .int .i64 3), (32, .pointer (some ⟨10, 6, none⟩)), (33, .agg #[.int .i64 0, .int .i64 2]), (34, .agg #[.int .i64 0, .int .i64 0]), (35, .int .i64 1), (36, .bool false), (37, .bool false), (40, .int .i64 4), (41, .int .i64 3), (44, .agg #[.int .i64 0, .int .i64 2]), (45, .slice (some ⟨9, 0, none⟩) 1 0), (46, .slice (some ⟨10, 0, none⟩) 4 0), (47, .int .i64 3)] [(1, ⟨[.int .i64 2, .int .i64 2, .int .i64 2, .int .i64 0, .int .i64 0, .int .i64 2, .int .i64 0, .int .i64 0], 27, true, 2⟩), (9, ⟨[.int .i64 0, .int .i64 2], 27, true, 2⟩), (10, ⟨[.int .i64 0, .int .i64 0, .int .i64 2, .int .i64 0, .int .i64 2, .int .i64 2, .int .i64 0, .int .i64 2], 27, true, 2⟩), (11, ⟨[.int .i64 0, .int .i64 0], 27, true, 2⟩)] ?_
  refine aw_fl 245467 ?_
  refine aw_ex 2 ?_
  refine then_exit ?_
  refine then_exit ?_
  refine block_exit ?_
  refine then_normal ?_
  refine aw_p1 (
    .a 3 12 <| .p (does_ap 13) <| .a 1 14 <| .nil _ _) ?_
  refine block_normal ?_
  refine then_normal ?_
  refine aw_p1 (
    .a 2 14 <| .nil _ _) ?_
  refine then_normal ?_
  refine al_round ?_
  refine aw_p 239 (
    .a 1 14 <| .nil _ _) ?_
  refine aw_sq 478 479 ?_
  refine aw_fl 957 ?_
  refine aw_ex 0 ?_
  refine then_exit ?_
  refine then_exit ?_
  refine block_exit ?_
  refine then_normal ?_
  refine aw_p 31 (
    .a 4 14 <|
    .p (does_val (v' := .slice (some ⟨13, 0, none⟩) 4 0) (does_slice (t := 44) (x := .tmp 48) (lo := none) (hi := some (.tmp 51)) (k := 13) (off := 0) (n := 5) (c := 0) (z := 2) (l := 0) (h := 4) (m := 4) (b := ⟨[.int .i64 0, .int .i64 0, .int .i64 2, .int .i64 0, .int .i64 2, .int .i64 2, .int .i64 0, .int .i64 2, .int .i64 0, .int .i64 0], 27, true, 2⟩) (by kernel_rfl) (by kernel_rfl) (by kernel_rfl) (by kernel_rfl) (by kernel_rfl) (by kernel_rfl) (by kernel_rfl) (by kernel_rfl) (by decide) (by decide) (by decide) (by decide)) (by kernel_rfl)) <|
    .a 1 14 <| .nil _ _) ?_
  refine aw_r [(2, 13)] [(4, .slice (some ⟨13, 0, none⟩) 4 0)] [(1, ⟨[.int .i64 2, .int .i64 2, .int .i64 2, .int .i64 0, .int .i64 0, .int .i64 2, .int .i64 0, .int .i64 0], 27, true, 2⟩), (13, ⟨[.int .i64 0, .int .i64 0, .int .i64 2, .int .i64 0, .int .i64 2, .int .i64 2, .int .i64 0, .int .i64 2, .int .i64 0, .int .i64 0], 27, true, 2⟩)] [(4, .slice (some ⟨2, 0, none⟩) 4 0)] [(1, ⟨[.int .i64 2, .int .i64 2, .int .i64 2, .int .i64 0, .int .i64 0, .int .i64 2, .int .i64 0, .int .i64 0], 27, true, 2⟩), (2, ⟨[.int .i64 0, .int .i64 0, .int .i64 2, .int .i64 0, .int .i64 2, .int .i64 2, .int .i64 0, .int .i64 2, .int .i64 0, .int .i64 0], 27, true, 2⟩)] ?_ ⟨rfl, (.slice _ _ _ _ _ rfl), trivial⟩ ⟨rfl, ⟨rfl, rfl, rfl, (.flats (by kernel_rfl))⟩, rfl, ⟨rfl, rfl, rfl, (.flats (by kernel_rfl))⟩, trivial⟩
  refine aw_rt ?_
  exact en_ret [.slice (some ⟨2, 0, none⟩) 4 0] (by kernel_rfl)

theorem au_144  :
    AC Tryz.prog 18 1 ([.slice (some ⟨0, 0, none⟩) 4 0]) [(0, ⟨[.int .i64 0, .int .i64 0, .int .i64 2, .int .i64 0, .int .i64 2, .int .i64 2, .int .i64 0, .int .i64 2], 27, true, 2⟩)] (.slice (some ⟨1, 0, none⟩) 4 0) [(0, ⟨[.int .i64 0, .int .i64 0, .int .i64 2, .int .i64 0, .int .i64 2, .int .i64 2, .int .i64 0, .int .i64 2], 27, true, 2⟩), (1, ⟨[.int .i64 0, .int .i64 0, .int .i64 2, .int .i64 0, .int .i64 2, .int .i64 2, .int .i64 0, .int .i64 2, .int .i64 0, .int .i64 0], 27, true, 2⟩)] := by
  refine ac_in Tryz.func18 (fun w0 W pin => ?_)
  refine aw_p 3 (
    .a 1 1 <| .nil _ _) ?_
  refine aw_p 7 (
    .a 2 1 <| .p (does_mk (kl := .i64) (kc := .i64) (n' := 0) (c' := 4) 1 27 2 16 0 4 (.agg #[.int .i64 0, .int .i64 0]) [] (by kernel_rfl) (by kernel_rfl) (by kernel_rfl) (by kernel_rfl) (by decide) (by decide) (by decide) (by decide) (by decide)) <| .a 1 2 <| .nil _ _) ?_
  refine aw_sq 14 15 ?_
  refine aw_p 29 (
    .a 3 2 <| .nil _ _) ?_
  refine aw_bl 0 59 ?_
  refine aw_lp 119 ?_
  refine al_round ?_
  refine aw_p 239 (
    .a 1 2 <| .nil _ _) ?_
  refine aw_sq 478 479 ?_
  refine aw_tr 956 ?_
  refine aw_sk ?_
  refine then_normal ?_
  refine aw_sq 958 959 ?_
  refine aw_bl 1 1917 ?_
  refine aw_p 3835 (
    .a 4 2 <| .nil _ _) ?_
  refine aw_p1 (
    .a 2 3 <| .p (does_c (au_9)) <| .a 1 3 <| .p (does_ap 4) <| .a 1 5 <| .nil _ _) ?_
  refine block_normal ?_
  refine then_normal ?_
  refine aw_p1 (
    .a 2 5 <| .nil _ _) ?_
  refine then_normal ?_
  refine al_round ?_
  refine aw_p 239 (
    .a 1 5 <| .nil _ _) ?_
  refine aw_sq 478 479 ?_
  refine aw_tr 956 ?_
  refine aw_sk ?_
  refine then_normal ?_
  refine aw_sq 958 959 ?_
  refine aw_bl 1 1917 ?_
  refine aw_p 3835 (
    .a 4 5 <| .nil _ _) ?_
  refine aw_w [(0, .slice (some ⟨0, 0, none⟩) 4 0), (2, .slice none 0 0), (3, .slice (some ⟨4, 0, none⟩) 1 0), (5, .pointer (some ⟨5, 0, none⟩)), (7, .slice (some ⟨0, 0, none⟩) 4 0), (8, .int .i64 4), (10, .slice (some ⟨0, 0, none⟩) 4 0), (11, .int .i64 4), (12, .int .i64 1), (13, .bool true), (14, .pointer (some ⟨0, 2, none⟩)), (15, .agg #[.int .i64 2, .int .i64 0]), (17, .agg #[.int .i64 0, .int .i64 0]), (18, .agg #[.int .i64 0, .int .i64 0]), (19, .slice (some ⟨3, 0, none⟩) 1 0), (20, .slice (some ⟨4, 0, none⟩) 1 0), (21, .int .i64 1)] [(0, ⟨[.int .i64 0, .int .i64 0, .int .i64 2, .int .i64 0, .int .i64 2, .int .i64 2, .int .i64 0, .int .i64 2], 27, true, 2⟩), (3, ⟨[.int .i64 0, .int .i64 0], 27, true, 2⟩), (4, ⟨[.int .i64 0, .int .i64 0], 27, true, 2⟩), (5, ⟨[.int .i64 2, .int .i64 0], 27, true, 2⟩)] ?_
  refine aw_p1 (
    .a 2 6 <| .p (does_c (au_77)) <| .a 1 6 <| .p (does_ap 7) <| .a 1 8 <| .nil _ _) ?_
  refine block_normal ?_
  refine then_normal ?_
  refine aw_p1 (
    .a 2 8 <| .nil _ _) ?_
  refine then_normal ?_
  refine al_round ?_
  refine aw_p 239 (
    .a 1 8 <| .nil _ _) ?_
  refine aw_sq 478 479 ?_
  refine aw_tr 956 ?_
  refine aw_sk ?_
  refine then_normal ?_
  refine aw_sq 958 959 ?_
  refine aw_bl 1 1917 ?_
  refine aw_p 3835 (
    .a 4 8 <| .nil _ _) ?_
  refine aw_p1 (
    .a 2 9 <| .p (does_c (au_79)) <| .a 1 9 <| .p (does_ap 10) <| .a 1 11 <| .nil _ _) ?_
  refine block_normal ?_
  refine then_normal ?_
  refine aw_p1 (
    .a 2 11 <| .nil _ _) ?_
  refine then_normal ?_
  refine al_round ?_
  refine aw_p 239 (
    .a 1 11 <| .nil _ _) ?_
  refine aw_sq 478 479 ?_
  refine aw_tr 956 ?_
  refine aw_sk ?_
  refine then_normal ?_
  refine aw_sq 958 959 ?_
  refine aw_bl 1 1917 ?_
  refine aw_p 3835 (
    .a 4 11 <| .nil _ _) ?_
  refine aw_w [(0, .slice (some ⟨0, 0, none⟩) 4 0), (2, .slice none 0 0), (3, .slice (some ⟨10, 0, none⟩) 3 0), (5, .pointer (some ⟨11, 0, none⟩)), (7, .slice (some ⟨0, 0, none⟩) 4 0), (8, .int .i64 4), (10, .slice (some ⟨0, 0, none⟩) 4 0), (11, .int .i64 4), (12, .int .i64 3), (13, .bool true), (14, .pointer (some ⟨0, 6, none⟩)), (15, .agg #[.int .i64 0, .int .i64 2]), (17, .agg #[.int .i64 2, .int .i64 2]), (18, .agg #[.int .i64 2, .int .i64 2]), (19, .slice (some ⟨9, 0, none⟩) 1 0), (20, .slice (some ⟨10, 0, none⟩) 3 0), (21, .int .i64 3)] [(0, ⟨[.int .i64 0, .int .i64 0, .int .i64 2, .int .i64 0, .int .i64 2, .int .i64 2, .int .i64 0, .int .i64 2], 27, true, 2⟩), (9, ⟨[.int .i64 2, .int .i64 2], 27, true, 2⟩), (10, ⟨[.int .i64 0, .int .i64 0, .int .i64 2, .int .i64 0, .int .i64 2, .int .i64 2], 27, true, 2⟩), (11, ⟨[.int .i64 0, .int .i64 2], 27, true, 2⟩)] ?_
  refine aw_p1 (
    .a 2 12 <| .p (does_c (au_82)) <| .a 1 12 <| .p (does_ap 13) <| .a 1 14 <| .nil _ _) ?_
  refine block_normal ?_
  refine then_normal ?_
  refine aw_p1 (
    .a 2 14 <| .nil _ _) ?_
  refine then_normal ?_
  refine al_round ?_
  refine aw_p 239 (
    .a 1 14 <| .nil _ _) ?_
  refine aw_sq 478 479 ?_
  refine aw_fl 957 ?_
  refine aw_ex 0 ?_
  refine then_exit ?_
  refine then_exit ?_
  refine block_exit ?_
  refine then_normal ?_
  refine aw_p 31 (
    .a 1 14 <| .p (does_k [13] (au_126)) <| .nil _ _) ?_
  refine aw_p 63 (
    .a 1 14 <| .p (does_k [13] (au_127)) <| .a 1 14 <| .nil _ _) ?_
  refine aw_sq 126 127 ?_
  refine aw_p 253 (
    .a 3 14 <| .nil _ _) ?_
  refine aw_fl 507 ?_
  refine aw_sk ?_
  refine then_normal ?_
  refine aw_p 255 (
    .a 1 14 <| .p (does_k [13, 14] (au_135)) <| .a 1 15 <| .nil _ _) ?_
  refine aw_p 511 (
    .a 1 15 <| .p (does_k [13] (au_136)) <| .nil _ _) ?_
  refine aw_p 1023 (
    .a 2 15 <| .p (does_k [14, 13, 15] (au_143)) <| .a 1 16 <| .nil _ _) ?_
  refine aw_w [(0, .slice (some ⟨0, 0, none⟩) 4 0), (2, .slice (some ⟨15, 0, none⟩) 4 0), (3, .slice (some ⟨13, 0, none⟩) 4 0), (5, .pointer (some ⟨11, 0, none⟩)), (7, .slice (some ⟨0, 0, none⟩) 4 0), (8, .int .i64 4), (10, .slice (some ⟨0, 0, none⟩) 4 0), (11, .int .i64 4), (12, .int .i64 4), (13, .bool false), (14, .pointer (some ⟨0, 6, none⟩)), (15, .agg #[.int .i64 0, .int .i64 2]), (17, .agg #[.int .i64 0, .int .i64 2]), (18, .agg #[.int .i64 0, .int .i64 2]), (19, .slice (some ⟨12, 0, none⟩) 1 0), (20, .slice (some ⟨13, 0, none⟩) 4 0), (21, .int .i64 4), (22, .slice (some ⟨13, 0, none⟩) 4 0), (24, .slice (some ⟨13, 0, none⟩) 4 0), (25, .slice (some ⟨13, 0, none⟩) 4 0), (26, .slice (some ⟨13, 0, none⟩) 4 0), (27, .int .i64 4), (28, .bool false), (30, .slice (some ⟨13, 0, none⟩) 4 0), (32, .slice (some ⟨13, 0, none⟩) 4 0)] [(0, ⟨[.int .i64 0, .int .i64 0, .int .i64 2, .int .i64 0, .int .i64 2, .int .i64 2, .int .i64 0, .int .i64 2], 27, true, 2⟩), (11, ⟨[.int .i64 0, .int .i64 2], 27, true, 2⟩), (12, ⟨[.int .i64 0, .int .i64 2], 27, true, 2⟩), (13, ⟨[.int .i64 2, .int .i64 2, .int .i64 2, .int .i64 0, .int .i64 0, .int .i64 2, .int .i64 0, .int .i64 0], 27, true, 2⟩), (15, ⟨[.int .i64 0, .int .i64 0, .int .i64 2, .int .i64 0, .int .i64 2, .int .i64 2, .int .i64 0, .int .i64 2, .int .i64 0, .int .i64 0], 27, true, 2⟩)] ?_
  refine aw_r [(1, 15)] [(2, .slice (some ⟨15, 0, none⟩) 4 0)] [(0, ⟨[.int .i64 0, .int .i64 0, .int .i64 2, .int .i64 0, .int .i64 2, .int .i64 2, .int .i64 0, .int .i64 2], 27, true, 2⟩), (15, ⟨[.int .i64 0, .int .i64 0, .int .i64 2, .int .i64 0, .int .i64 2, .int .i64 2, .int .i64 0, .int .i64 2, .int .i64 0, .int .i64 0], 27, true, 2⟩)] [(2, .slice (some ⟨1, 0, none⟩) 4 0)] [(0, ⟨[.int .i64 0, .int .i64 0, .int .i64 2, .int .i64 0, .int .i64 2, .int .i64 2, .int .i64 0, .int .i64 2], 27, true, 2⟩), (1, ⟨[.int .i64 0, .int .i64 0, .int .i64 2, .int .i64 0, .int .i64 2, .int .i64 2, .int .i64 0, .int .i64 2, .int .i64 0, .int .i64 0], 27, true, 2⟩)] ?_ ⟨rfl, (.slice _ _ _ _ _ rfl), trivial⟩ ⟨rfl, ⟨rfl, rfl, rfl, (.flats (by kernel_rfl))⟩, rfl, ⟨rfl, rfl, rfl, (.flats (by kernel_rfl))⟩, trivial⟩
  refine aw_rt ?_
  exact en_ret [.slice (some ⟨1, 0, none⟩) 4 0] (by kernel_rfl)

theorem au_145  :
    AC Tryz.prog 12 0 ([.int .i64 5, .int .i64 1]) [] (.agg #[.int .i64 5, .int .i64 1]) [] := by
  refine ac_in Tryz.func12 (fun w0 W pin => ?_)
  refine aw_p 3 (
    .a 1 1 <| .nil _ _) ?_
  refine aw_p 7 (
    .a 4 2 <| .nil _ _) ?_
  refine aw_rt ?_
  exact en_ret [.agg #[.int .i64 5, .int .i64 1]] (by kernel_rfl)

theorem au_146  :
    AC Tryz.prog 12 0 ([.int .i64 10, .int .i64 0]) [] (.agg #[.int .i64 10, .int .i64 0]) [] := by
  refine ac_in Tryz.func12 (fun w0 W pin => ?_)
  refine aw_p 3 (
    .a 1 1 <| .nil _ _) ?_
  refine aw_p 7 (
    .a 4 2 <| .nil _ _) ?_
  refine aw_rt ?_
  exact en_ret [.agg #[.int .i64 10, .int .i64 0]] (by kernel_rfl)

theorem au_147  :
    AC Tryz.prog 69 0 ([.int .i64 5, .int .i64 1048576]) [] (.int .i64 5) [] := by
  refine ac_in Tryz.func69 (fun w0 W pin => ?_)
  refine aw_p 3 (
    .a 1 1 <| .nil _ _) ?_
  refine aw_p 7 (
    .a 7 1 <| .nil _ _) ?_
  refine aw_rt ?_
  exact en_ret [.int .i64 5] (by kernel_rfl)

theorem au_148  :
    AC Tryz.prog 38 0 ([.agg #[.int .i64 5, .int .i64 1]]) [] (.agg #[.int .i64 5, .int .i64 1]) [] := by
  refine ac_in Tryz.func38 (fun w0 W pin => ?_)
  refine aw_p 3 (
    .a 2 1 <| .nil _ _) ?_
  refine aw_d 7 (
    .a 2 3 <| .p (does_c (au_147)) <| .a 2 3 <| .p (does_c (au_10)) <| .a 2 3 <| .nil _ _) ?_
  refine aw_rt ?_
  exact en_ret [.agg #[.int .i64 5, .int .i64 1]] (by kernel_rfl)

theorem au_149  :
    AC Tryz.prog 69 0 ([.int .i64 10, .int .i64 1048576]) [] (.int .i64 10) [] := by
  refine ac_in Tryz.func69 (fun w0 W pin => ?_)
  refine aw_p 3 (
    .a 1 1 <| .nil _ _) ?_
  refine aw_p 7 (
    .a 7 1 <| .nil _ _) ?_
  refine aw_rt ?_
  exact en_ret [.int .i64 10] (by kernel_rfl)

theorem au_150  :
    AC Tryz.prog 38 0 ([.agg #[.int .i64 10, .int .i64 0]]) [] (.agg #[.int .i64 10, .int .i64 0]) [] := by
  refine ac_in Tryz.func38 (fun w0 W pin => ?_)
  refine aw_p 3 (
    .a 2 1 <| .nil _ _) ?_
  refine aw_d 7 (
    .a 2 3 <| .p (does_c (au_149)) <| .a 2 3 <| .p (does_c (au_8)) <| .a 2 3 <| .nil _ _) ?_
  refine aw_rt ?_
  exact en_ret [.agg #[.int .i64 10, .int .i64 0]] (by kernel_rfl)

theorem au_151  :
    AC Tryz.prog 71 0 ([.agg #[.int .i64 0, .int .i64 0], .agg #[.int .i64 10, .int .i64 0]]) [] (.agg #[.int .i64 10, .int .i64 0]) [] := by
  refine ac_in Tryz.func71 (fun w0 W pin => ?_)
  refine aw_p 3 (
    .a 3 1 <| .nil _ _) ?_
  refine aw_d 7 (
    .a 1 4 <| .p (does_c (au_9)) <| .a 1 4 <| .p (does_c (au_150)) <| .a 2 4 <| .nil _ _) ?_
  refine aw_p 15 (
    .a 12 4 <| .nil _ _) ?_
  refine aw_rt ?_
  exact en_ret [.agg #[.int .i64 10, .int .i64 0]] (by kernel_rfl)

theorem au_152  :
    AC Tryz.prog 74 0 ([.agg #[.int .i64 0, .int .i64 0], .agg #[.int .i64 10, .int .i64 0], .agg #[.int .i64 10, .int .i64 0]]) [] (.int .i64 100) [] := by
  refine ac_in Tryz.func74 (fun w0 W pin => ?_)
  refine aw_p 3 (
    .a 4 1 <| .nil _ _) ?_
  refine aw_d 7 (
    .a 2 4 <| .p (does_c (au_151)) <| .a 2 4 <| .p (does_c (au_151)) <| .a 4 4 <| .nil _ _) ?_
  refine aw_p 15 (
    .a 12 6 <| .nil _ _) ?_
  refine aw_w [(0, .agg #[.int .i64 0, .int .i64 0]), (1, .agg #[.int .i64 10, .int .i64 0]), (2, .agg #[.int .i64 10, .int .i64 0]), (3, .pointer (some ⟨1, 0, none⟩)), (4, .pointer (some ⟨2, 0, none⟩)), (5, .pointer (some ⟨3, 0, none⟩)), (6, .int .i64 100), (7, .pointer (some ⟨4, 0, none⟩)), (8, .pointer (some ⟨5, 0, none⟩)), (9, .agg #[.int .i64 0, .int .i64 0]), (10, .agg #[.int .i64 10, .int .i64 0]), (11, .agg #[.int .i64 10, .int .i64 0]), (12, .agg #[.int .i64 0, .int .i64 0]), (13, .agg #[.int .i64 10, .int .i64 0]), (14, .agg #[.int .i64 10, .int .i64 0])] [(1, ⟨[.int .i64 0, .int .i64 0], 27, true, 2⟩), (2, ⟨[.int .i64 10, .int .i64 0], 27, true, 2⟩), (3, ⟨[.int .i64 10, .int .i64 0], 27, true, 2⟩), (4, ⟨[.int .i64 10, .int .i64 0], 27, true, 2⟩), (5, ⟨[.int .i64 10, .int .i64 0], 27, true, 2⟩)] ?_
  refine aw_rt ?_
  exact en_ret [.int .i64 100] (by kernel_rfl)

theorem au_153  :
    AC Tryz.prog 100 0 ([.agg #[.int .i64 0, .int .i64 0], .agg #[.int .i64 10, .int .i64 0]]) [] (.int .i64 100) [] := by
  refine ac_in Tryz.func100 (fun w0 W pin => ?_)
  refine aw_p 3 (
    .a 3 1 <| .nil _ _) ?_
  refine aw_p 7 (
    .a 3 3 <| .p (does_c (au_152)) <| .a 1 3 <| .nil _ _) ?_
  refine aw_rt ?_
  exact en_ret [.int .i64 100] (by kernel_rfl)

theorem au_154  :
    AC Tryz.prog 71 0 ([.agg #[.int .i64 0, .int .i64 0], .agg #[.int .i64 5, .int .i64 1]]) [] (.agg #[.int .i64 5, .int .i64 1]) [] := by
  refine ac_in Tryz.func71 (fun w0 W pin => ?_)
  refine aw_p 3 (
    .a 3 1 <| .nil _ _) ?_
  refine aw_d 7 (
    .a 1 4 <| .p (does_c (au_9)) <| .a 1 4 <| .p (does_c (au_148)) <| .a 2 4 <| .nil _ _) ?_
  refine aw_p 15 (
    .a 12 4 <| .nil _ _) ?_
  refine aw_rt ?_
  exact en_ret [.agg #[.int .i64 5, .int .i64 1]] (by kernel_rfl)

theorem au_155  :
    AC Tryz.prog 74 0 ([.agg #[.int .i64 0, .int .i64 0], .agg #[.int .i64 10, .int .i64 0], .agg #[.int .i64 5, .int .i64 1]]) [] (.int .i64 50) [] := by
  refine ac_in Tryz.func74 (fun w0 W pin => ?_)
  refine aw_p 3 (
    .a 4 1 <| .nil _ _) ?_
  refine aw_d 7 (
    .a 2 4 <| .p (does_c (au_151)) <| .a 2 4 <| .p (does_c (au_154)) <| .a 4 4 <| .nil _ _) ?_
  refine aw_p 15 (
    .a 12 6 <| .nil _ _) ?_
  refine aw_w [(0, .agg #[.int .i64 0, .int .i64 0]), (1, .agg #[.int .i64 10, .int .i64 0]), (2, .agg #[.int .i64 5, .int .i64 1]), (3, .pointer (some ⟨1, 0, none⟩)), (4, .pointer (some ⟨2, 0, none⟩)), (5, .pointer (some ⟨3, 0, none⟩)), (6, .int .i64 50), (7, .pointer (some ⟨4, 0, none⟩)), (8, .pointer (some ⟨5, 0, none⟩)), (9, .agg #[.int .i64 0, .int .i64 0]), (10, .agg #[.int .i64 10, .int .i64 0]), (11, .agg #[.int .i64 10, .int .i64 0]), (12, .agg #[.int .i64 0, .int .i64 0]), (13, .agg #[.int .i64 5, .int .i64 1]), (14, .agg #[.int .i64 5, .int .i64 1])] [(1, ⟨[.int .i64 0, .int .i64 0], 27, true, 2⟩), (2, ⟨[.int .i64 10, .int .i64 0], 27, true, 2⟩), (3, ⟨[.int .i64 5, .int .i64 1], 27, true, 2⟩), (4, ⟨[.int .i64 10, .int .i64 0], 27, true, 2⟩), (5, ⟨[.int .i64 5, .int .i64 1], 27, true, 2⟩)] ?_
  refine aw_rt ?_
  exact en_ret [.int .i64 50] (by kernel_rfl)

theorem au_156  :
    AC Tryz.prog 42 0 ([.agg #[.int .i64 0, .int .i64 0], .agg #[.int .i64 10, .int .i64 0], .agg #[.int .i64 5, .int .i64 1]]) [] (.int .i64 10) [] := by
  refine ac_in Tryz.func42 (fun w0 W pin => ?_)
  refine aw_p 3 (
    .a 4 1 <| .nil _ _) ?_
  refine aw_d 7 (
    .a 2 4 <| .p (does_c (au_151)) <| .a 2 4 <| .p (does_c (au_154)) <| .a 4 4 <| .nil _ _) ?_
  refine aw_p 15 (
    .a 12 6 <| .nil _ _) ?_
  refine aw_w [(0, .agg #[.int .i64 0, .int .i64 0]), (1, .agg #[.int .i64 10, .int .i64 0]), (2, .agg #[.int .i64 5, .int .i64 1]), (3, .pointer (some ⟨1, 0, none⟩)), (4, .pointer (some ⟨2, 0, none⟩)), (5, .pointer (some ⟨3, 0, none⟩)), (6, .int .i64 10), (7, .pointer (some ⟨4, 0, none⟩)), (8, .pointer (some ⟨5, 0, none⟩)), (9, .agg #[.int .i64 0, .int .i64 0]), (10, .agg #[.int .i64 10, .int .i64 0]), (11, .agg #[.int .i64 10, .int .i64 0]), (12, .agg #[.int .i64 0, .int .i64 0]), (13, .agg #[.int .i64 5, .int .i64 1]), (14, .agg #[.int .i64 5, .int .i64 1])] [(1, ⟨[.int .i64 0, .int .i64 0], 27, true, 2⟩), (2, ⟨[.int .i64 10, .int .i64 0], 27, true, 2⟩), (3, ⟨[.int .i64 5, .int .i64 1], 27, true, 2⟩), (4, ⟨[.int .i64 10, .int .i64 0], 27, true, 2⟩), (5, ⟨[.int .i64 5, .int .i64 1], 27, true, 2⟩)] ?_
  refine aw_rt ?_
  exact en_ret [.int .i64 10] (by kernel_rfl)

theorem au_157  :
    AC Tryz.prog 46 0 ([.int .u64 10, .int .u64 10]) [] (.tuple #[.int .u64 0, .int .u64 100]) [] := by
  refine ac_in Tryz.func46 (fun w0 W pin => ?_)
  refine aw_p 3 (
    .a 2 1 <| .nil _ _) ?_
  refine aw_p 7 (
    .a 3 1 <| .nil _ _) ?_
  refine aw_p 15 (
    .a 3 1 <| .nil _ _) ?_
  refine aw_p 31 (
    .a 3 1 <| .nil _ _) ?_
  refine aw_p 63 (
    .a 3 1 <| .nil _ _) ?_
  refine aw_p 127 (
    .a 4 1 <| .nil _ _) ?_
  refine aw_p 255 (
    .a 7 1 <| .nil _ _) ?_
  refine aw_w [(0, .int .u64 10), (1, .int .u64 10), (4, .int .u64 0), (5, .int .u64 0), (6, .int .u64 10), (7, .int .u64 0), (8, .int .u64 10), (9, .int .u64 0), (11, .int .u64 0), (14, .int .u64 10), (15, .int .u64 10), (16, .int .u64 10), (17, .int .u64 0), (18, .int .u64 10), (19, .int .u64 10), (20, .int .u64 10), (21, .int .u64 0), (22, .int .u64 10), (23, .int .u64 10), (24, .int .u64 100)] [] ?_
  refine aw_p 511 (
    .a 3 1 <| .nil _ _) ?_
  refine aw_p 1023 (
    .a 3 1 <| .nil _ _) ?_
  refine aw_p 2047 (
    .a 6 1 <| .nil _ _) ?_
  refine aw_p 4095 (
    .a 9 1 <| .nil _ _) ?_
  refine aw_p 8191 (
    .a 4 1 <| .nil _ _) ?_
  refine aw_w [(0, .int .u64 10), (1, .int .u64 10), (4, .int .u64 0), (5, .int .u64 100), (6, .int .u64 10), (7, .int .u64 0), (8, .int .u64 10), (9, .int .u64 0), (11, .int .u64 0), (12, .int .u64 0), (13, .int .u64 0), (14, .int .u64 10), (15, .int .u64 10), (16, .int .u64 10), (17, .int .u64 0), (18, .int .u64 10), (19, .int .u64 10), (20, .int .u64 10), (21, .int .u64 0), (22, .int .u64 10), (23, .int .u64 10), (24, .int .u64 100), (31, .int .u64 0), (32, .int .u64 0), (33, .int .u64 0), (34, .int .u64 0), (35, .int .u64 0), (36, .int .u64 10), (37, .int .u64 0), (38, .int .u64 0), (39, .int .u64 0), (40, .int .u64 0), (41, .int .u64 0), (42, .int .u64 0), (43, .int .u64 0), (44, .int .u64 0), (45, .int .u64 0), (46, .int .u64 0), (47, .int .u64 0)] [] ?_
  refine aw_rt ?_
  exact en_ret [.int .u64 0, .int .u64 100] (by kernel_rfl)

theorem au_158  :
    AC Tryz.prog 16 0 ([.int .i64 10, .int .i64 10]) [] (.agg #[.int .i64 0, .int .u64 100]) [] := by
  refine ac_in Tryz.func16 (fun w0 W pin => ?_)
  refine aw_p 3 (
    .a 1 1 <| .nil _ _) ?_
  refine aw_p 7 (
    .a 4 2 <| .p (does_c (au_157)) <| .a 5 2 <| .nil _ _) ?_
  refine aw_sq 14 15 ?_
  refine aw_p 29 (
    .a 2 2 <| .nil _ _) ?_
  refine aw_fl 59 ?_
  refine aw_sk ?_
  refine then_normal ?_
  refine aw_sq 30 31 ?_
  refine aw_p 61 (
    .a 2 2 <| .nil _ _) ?_
  refine aw_fl 123 ?_
  refine aw_sk ?_
  refine then_normal ?_
  refine aw_p 63 (
    .a 5 2 <| .nil _ _) ?_
  refine aw_rt ?_
  exact en_ret [.agg #[.int .i64 0, .int .u64 100]] (by kernel_rfl)

theorem au_159  :
    AC Tryz.prog 99 0 ([.agg #[.int .i64 5, .int .i64 1], .agg #[.int .i64 0, .int .i64 0], .agg #[.int .i64 10, .int .i64 0]]) [] (.tuple #[.agg #[.int .i64 0, .int .u64 100], .int .i64 100]) [] := by
  refine ac_in Tryz.func99 (fun w0 W pin => ?_)
  refine aw_p 3 (
    .a 5 1 <| .nil _ _) ?_
  refine aw_d 7 (
    .a 2 5 <| .p (does_c (au_153)) <| .a 3 5 <| .p (does_c (au_155)) <| .a 2 5 <| .nil _ _) ?_
  refine aw_sq 14 15 ?_
  refine aw_bl 0 29 ?_
  refine aw_p 59 (
    .a 3 5 <| .nil _ _) ?_
  refine aw_fl 119 ?_
  refine aw_p 239 (
    .a 4 5 <| .nil _ _) ?_
  refine aw_fl 479 ?_
  refine aw_sk ?_
  refine block_normal ?_
  refine then_normal ?_
  refine aw_p 31 (
    .a 3 5 <| .p (does_c (au_156)) <| .a 1 5 <| .nil _ _) ?_
  refine aw_w [(0, .agg #[.int .i64 5, .int .i64 1]), (1, .agg #[.int .i64 0, .int .i64 0]), (2, .agg #[.int .i64 10, .int .i64 0]), (3, .pointer (some ⟨1, 0, none⟩)), (4, .pointer (some ⟨2, 0, none⟩)), (5, .pointer (some ⟨3, 0, none⟩)), (6, .pointer (some ⟨4, 0, none⟩)), (7, .int .i64 0), (8, .int .i64 100), (9, .int .i64 50), (10, .int .i64 10), (11, .agg #[.int .i64 0, .int .i64 0]), (12, .agg #[.int .i64 10, .int .i64 0]), (13, .int .i64 100), (14, .agg #[.int .i64 0, .int .i64 0]), (15, .agg #[.int .i64 10, .int .i64 0]), (16, .agg #[.int .i64 5, .int .i64 1]), (17, .int .i64 50), (18, .bool false), (19, .int .i64 50), (20, .bool false), (25, .bool false), (26, .int .i64 50), (27, .int .i64 100), (28, .bool false)] [(1, ⟨[.int .i64 5, .int .i64 1], 27, true, 2⟩), (2, ⟨[.int .i64 0, .int .i64 0], 27, true, 2⟩), (3, ⟨[.int .i64 10, .int .i64 0], 27, true, 2⟩), (4, ⟨[.int .i64 0, .int .u64 0], 53, true, 2⟩)] ?_
  refine aw_p 63 (
    .a 2 5 <| .p (does_c (au_158)) <| .a 3 5 <| .nil _ _) ?_
  refine aw_rt ?_
  exact en_ret [.agg #[.int .i64 0, .int .u64 100], .int .i64 100] (by kernel_rfl)

theorem au_160  :
    AC Tryz.prog 46 0 ([.int .u64 1, .int .u64 100]) [] (.tuple #[.int .u64 0, .int .u64 100]) [] := by
  refine ac_in Tryz.func46 (fun w0 W pin => ?_)
  refine aw_p 3 (
    .a 2 1 <| .nil _ _) ?_
  refine aw_p 7 (
    .a 3 1 <| .nil _ _) ?_
  refine aw_p 15 (
    .a 3 1 <| .nil _ _) ?_
  refine aw_p 31 (
    .a 3 1 <| .nil _ _) ?_
  refine aw_p 63 (
    .a 3 1 <| .nil _ _) ?_
  refine aw_p 127 (
    .a 4 1 <| .nil _ _) ?_
  refine aw_p 255 (
    .a 7 1 <| .nil _ _) ?_
  refine aw_w [(0, .int .u64 1), (1, .int .u64 100), (4, .int .u64 0), (5, .int .u64 0), (6, .int .u64 1), (7, .int .u64 0), (8, .int .u64 100), (9, .int .u64 0), (11, .int .u64 0), (14, .int .u64 1), (15, .int .u64 1), (16, .int .u64 1), (17, .int .u64 0), (18, .int .u64 100), (19, .int .u64 100), (20, .int .u64 100), (21, .int .u64 0), (22, .int .u64 1), (23, .int .u64 100), (24, .int .u64 100)] [] ?_
  refine aw_p 511 (
    .a 3 1 <| .nil _ _) ?_
  refine aw_p 1023 (
    .a 3 1 <| .nil _ _) ?_
  refine aw_p 2047 (
    .a 6 1 <| .nil _ _) ?_
  refine aw_p 4095 (
    .a 9 1 <| .nil _ _) ?_
  refine aw_p 8191 (
    .a 4 1 <| .nil _ _) ?_
  refine aw_w [(0, .int .u64 1), (1, .int .u64 100), (4, .int .u64 0), (5, .int .u64 100), (6, .int .u64 1), (7, .int .u64 0), (8, .int .u64 100), (9, .int .u64 0), (11, .int .u64 0), (12, .int .u64 0), (13, .int .u64 0), (14, .int .u64 1), (15, .int .u64 1), (16, .int .u64 1), (17, .int .u64 0), (18, .int .u64 100), (19, .int .u64 100), (20, .int .u64 100), (21, .int .u64 0), (22, .int .u64 1), (23, .int .u64 100), (24, .int .u64 100), (31, .int .u64 0), (32, .int .u64 0), (33, .int .u64 0), (34, .int .u64 0), (35, .int .u64 0), (36, .int .u64 1), (37, .int .u64 0), (38, .int .u64 0), (39, .int .u64 0), (40, .int .u64 0), (41, .int .u64 0), (42, .int .u64 0), (43, .int .u64 0), (44, .int .u64 0), (45, .int .u64 0), (46, .int .u64 0), (47, .int .u64 0)] [] ?_
  refine aw_rt ?_
  exact en_ret [.int .u64 0, .int .u64 100] (by kernel_rfl)

theorem au_161  :
    AC Tryz.prog 16 0 ([.int .i64 1, .int .i64 100]) [] (.agg #[.int .i64 0, .int .u64 100]) [] := by
  refine ac_in Tryz.func16 (fun w0 W pin => ?_)
  refine aw_p 3 (
    .a 1 1 <| .nil _ _) ?_
  refine aw_p 7 (
    .a 4 2 <| .p (does_c (au_160)) <| .a 5 2 <| .nil _ _) ?_
  refine aw_sq 14 15 ?_
  refine aw_p 29 (
    .a 2 2 <| .nil _ _) ?_
  refine aw_fl 59 ?_
  refine aw_sk ?_
  refine then_normal ?_
  refine aw_sq 30 31 ?_
  refine aw_p 61 (
    .a 2 2 <| .nil _ _) ?_
  refine aw_fl 123 ?_
  refine aw_sk ?_
  refine then_normal ?_
  refine aw_p 63 (
    .a 5 2 <| .nil _ _) ?_
  refine aw_rt ?_
  exact en_ret [.agg #[.int .i64 0, .int .u64 100]] (by kernel_rfl)

theorem au_162  :
    AC Tryz.prog 60 0 ([.agg #[.int .i64 0, .int .u64 100], .agg #[.int .i64 0, .int .u64 100]]) [] (.int .i64 0) [] := by
  refine ac_in Tryz.func60 (fun w0 W pin => ?_)
  refine aw_p 3 (
    .a 3 1 <| .nil _ _) ?_
  refine aw_sq 6 7 ?_
  refine aw_bl 0 13 ?_
  refine aw_p 27 (
    .a 2 3 <| .p (does_e true ((show ((0 == 0) && ((100 == 100) && true)) = true from by decide))) <| .a 1 3 <| .nil _ _) ?_
  refine aw_tr 54 ?_
  refine aw_p 109 (
    .a 1 3 <| .nil _ _) ?_
  refine aw_rt ?_
  refine block_ret ?_
  refine then_ret ?_
  exact en_ret [.int .i64 0] (by kernel_rfl)

theorem au_163  :
    AC Tryz.prog 78 0 ([.agg #[.int .i64 5, .int .i64 1], .agg #[.int .i64 0, .int .i64 0], .agg #[.int .i64 10, .int .i64 0], .int .i64 1]) [] (.bool true) [] := by
  refine ac_in Tryz.func78 (fun w0 W pin => ?_)
  refine aw_p 3 (
    .a 4 1 <| .nil _ _) ?_
  refine aw_p 7 (
    .a 3 4 <| .nil _ _) ?_
  refine aw_sq 14 15 ?_
  refine aw_p 29 (
    .a 2 4 <| .nil _ _) ?_
  refine aw_fl 59 ?_
  refine aw_sk ?_
  refine then_normal ?_
  refine aw_p 31 (
    .a 3 4 <| .p (does_c (au_159)) <| .a 6 4 <| .nil _ _) ?_
  refine aw_d 63 (
    .a 5 5 <| .p (does_c (au_161)) <| .p (does_c (au_162)) <| .a 2 5 <| .nil _ _) ?_
  refine aw_w [(0, .agg #[.int .i64 5, .int .i64 1]), (1, .agg #[.int .i64 0, .int .i64 0]), (2, .agg #[.int .i64 10, .int .i64 0]), (3, .int .i64 1), (4, .pointer (some ⟨1, 0, none⟩)), (5, .pointer (some ⟨2, 0, none⟩)), (6, .pointer (some ⟨3, 0, none⟩)), (8, .bool true), (9, .pointer (some ⟨4, 0, none⟩)), (11, .int .i64 1), (12, .int .i64 1), (13, .int .i64 1), (14, .bool false), (15, .tuple #[.agg #[.int .i64 0, .int .u64 100], .int .i64 100]), (16, .agg #[.int .i64 5, .int .i64 1]), (17, .agg #[.int .i64 0, .int .i64 0]), (18, .agg #[.int .i64 10, .int .i64 0]), (19, .tuple #[.agg #[.int .i64 0, .int .u64 100], .int .i64 100]), (20, .agg #[.int .i64 0, .int .u64 100]), (21, .int .i64 100)] [(1, ⟨[.int .i64 5, .int .i64 1], 27, true, 2⟩), (2, ⟨[.int .i64 0, .int .i64 0], 27, true, 2⟩), (3, ⟨[.int .i64 10, .int .i64 0], 27, true, 2⟩), (4, ⟨[.int .i64 0, .int .u64 100], 53, true, 2⟩)] ?_
  refine aw_rt ?_
  exact en_ret [.bool true] (by kernel_rfl)

theorem au_164  :
    AC Tryz.prog 52 2 ([.slice (some ⟨0, 0, none⟩) 3 0, .slice (some ⟨1, 0, none⟩) 3 0, .int .i64 0, .int .i64 2, .int .i64 1]) [(0, ⟨[.int .i64 0, .int .i64 0, .int .i64 5, .int .i64 1, .int .i64 10, .int .i64 0], 27, true, 2⟩), (1, ⟨[.bool true, .bool false, .bool true], 4, true, 1⟩)] (.tuple #[]) [(0, ⟨[.int .i64 0, .int .i64 0, .int .i64 5, .int .i64 1, .int .i64 10, .int .i64 0], 27, true, 2⟩), (1, ⟨[.bool true, .bool false, .bool true], 4, true, 1⟩)] := by
  refine ac_in Tryz.func52 (fun w0 W pin => ?_)
  refine aw_p 3 (
    .a 1 2 <| .nil _ _) ?_
  refine aw_sq 6 7 ?_
  refine aw_p 13 (
    .a 3 2 <| .nil _ _) ?_
  refine aw_bl 0 27 ?_
  refine aw_lp 55 ?_
  refine al_round ?_
  refine aw_sq 110 111 ?_
  refine aw_p 221 (
    .a 3 2 <| .nil _ _) ?_
  refine aw_tr 442 ?_
  refine aw_sk ?_
  refine then_normal ?_
  refine aw_sq 222 223 ?_
  refine aw_bl 1 445 ?_
  refine aw_d 891 (
    .a 14 2 <| .p (does_c (au_163)) <| .a 24 2 <| .nil _ _) ?_
  refine aw_w [(0, .slice (some ⟨0, 0, none⟩) 3 0), (1, .slice (some ⟨1, 0, none⟩) 3 0), (2, .int .i64 0), (3, .int .i64 2), (4, .int .i64 1), (10, .int .i64 (-1)), (11, .int .i64 1), (12, .int .i64 0), (13, .int .i64 1), (14, .int .i64 1), (15, .int .i64 2), (16, .bool true), (19, .slice (some ⟨0, 0, none⟩) 3 0), (20, .int .i64 1), (21, .pointer (some ⟨0, 2, none⟩)), (22, .agg #[.int .i64 5, .int .i64 1]), (23, .slice (some ⟨0, 0, none⟩) 3 0), (24, .int .i64 0), (25, .pointer (some ⟨0, 0, none⟩)), (26, .agg #[.int .i64 0, .int .i64 0]), (27, .slice (some ⟨0, 0, none⟩) 3 0), (28, .int .i64 2), (29, .pointer (some ⟨0, 4, none⟩)), (30, .agg #[.int .i64 10, .int .i64 0]), (31, .int .i64 1), (32, .int .i64 1), (33, .bool true), (34, .bool false), (35, .bool false), (57, .bool false)] [(0, ⟨[.int .i64 0, .int .i64 0, .int .i64 5, .int .i64 1, .int .i64 10, .int .i64 0], 27, true, 2⟩), (1, ⟨[.bool true, .bool false, .bool true], 4, true, 1⟩)] ?_
  refine aw_fl 1783 ?_
  refine aw_sk ?_
  refine block_normal ?_
  refine then_normal ?_
  refine aw_p1 (
    .a 3 2 <| .nil _ _) ?_
  refine then_normal ?_
  refine al_round ?_
  refine aw_sq 110 111 ?_
  refine aw_p 221 (
    .a 3 2 <| .nil _ _) ?_
  refine aw_fl 443 ?_
  refine aw_ex 0 ?_
  refine then_exit ?_
  refine then_exit ?_
  refine block_exit ?_
  refine then_normal ?_
  refine aw_sq 14 15 ?_
  refine aw_p 29 (
    .a 2 2 <| .nil _ _) ?_
  refine aw_tr 58 ?_
  refine aw_rt ?_
  refine then_ret ?_
  exact en_ret [] (by kernel_rfl)

theorem au_165  :
    AC Tryz.prog 20 1 ([.slice (some ⟨0, 0, none⟩) 3 0, .int .i64 1]) [(0, ⟨[.int .i64 0, .int .i64 0, .int .i64 5, .int .i64 1, .int .i64 10, .int .i64 0], 27, true, 2⟩)] (.slice (some ⟨1, 0, none⟩) 2 0) [(0, ⟨[.int .i64 0, .int .i64 0, .int .i64 5, .int .i64 1, .int .i64 10, .int .i64 0], 27, true, 2⟩), (1, ⟨[.int .i64 0, .int .i64 0, .int .i64 10, .int .i64 0], 27, true, 2⟩)] := by
  refine ac_in Tryz.func20 (fun w0 W pin => ?_)
  refine aw_p 3 (
    .a 1 1 <| .nil _ _) ?_
  refine aw_p 7 (
    .a 2 1 <| .p (does_mk (kl := .i64) (kc := .i64) (n' := 0) (c' := 3) 1 27 2 16 0 3 (.agg #[.int .i64 0, .int .i64 0]) [] (by kernel_rfl) (by kernel_rfl) (by kernel_rfl) (by kernel_rfl) (by decide) (by decide) (by decide) (by decide) (by decide)) <| .a 1 2 <| .nil _ _) ?_
  refine aw_sq 14 15 ?_
  refine aw_p 29 (
    .a 3 2 <| .nil _ _) ?_
  refine aw_bl 0 59 ?_
  refine aw_lp 119 ?_
  refine al_round ?_
  refine aw_p 239 (
    .a 1 2 <| .nil _ _) ?_
  refine aw_sq 478 479 ?_
  refine aw_tr 956 ?_
  refine aw_sk ?_
  refine then_normal ?_
  refine aw_sq 958 959 ?_
  refine aw_bl 1 1917 ?_
  refine aw_p 3835 (
    .a 4 2 <| .nil _ _) ?_
  refine aw_p1 (
    .a 2 3 <| .p (does_c (au_9)) <| .a 1 3 <| .p (does_ap 4) <| .a 1 5 <| .nil _ _) ?_
  refine block_normal ?_
  refine then_normal ?_
  refine aw_p1 (
    .a 2 5 <| .nil _ _) ?_
  refine then_normal ?_
  refine al_round ?_
  refine aw_p 239 (
    .a 1 5 <| .nil _ _) ?_
  refine aw_sq 478 479 ?_
  refine aw_tr 956 ?_
  refine aw_sk ?_
  refine then_normal ?_
  refine aw_sq 958 959 ?_
  refine aw_bl 1 1917 ?_
  refine aw_p 3835 (
    .a 4 5 <| .nil _ _) ?_
  refine aw_w [(0, .slice (some ⟨0, 0, none⟩) 3 0), (1, .int .i64 1), (4, .slice none 0 0), (5, .slice (some ⟨4, 0, none⟩) 1 0), (7, .pointer (some ⟨5, 0, none⟩)), (12, .slice (some ⟨0, 0, none⟩) 3 0), (13, .int .i64 3), (15, .slice (some ⟨0, 0, none⟩) 3 0), (16, .int .i64 3), (17, .int .i64 1), (18, .bool true), (19, .pointer (some ⟨0, 2, none⟩)), (20, .agg #[.int .i64 5, .int .i64 1]), (22, .agg #[.int .i64 0, .int .i64 0]), (23, .agg #[.int .i64 0, .int .i64 0]), (24, .slice (some ⟨3, 0, none⟩) 1 0), (25, .slice (some ⟨4, 0, none⟩) 1 0), (26, .int .i64 1)] [(0, ⟨[.int .i64 0, .int .i64 0, .int .i64 5, .int .i64 1, .int .i64 10, .int .i64 0], 27, true, 2⟩), (3, ⟨[.int .i64 0, .int .i64 0], 27, true, 2⟩), (4, ⟨[.int .i64 0, .int .i64 0], 27, true, 2⟩), (5, ⟨[.int .i64 5, .int .i64 1], 27, true, 2⟩)] ?_
  refine aw_p1 (
    .a 2 6 <| .p (does_c (au_148)) <| .a 1 6 <| .p (does_ap 7) <| .a 1 8 <| .nil _ _) ?_
  refine block_normal ?_
  refine then_normal ?_
  refine aw_p1 (
    .a 2 8 <| .nil _ _) ?_
  refine then_normal ?_
  refine al_round ?_
  refine aw_p 239 (
    .a 1 8 <| .nil _ _) ?_
  refine aw_sq 478 479 ?_
  refine aw_tr 956 ?_
  refine aw_sk ?_
  refine then_normal ?_
  refine aw_sq 958 959 ?_
  refine aw_bl 1 1917 ?_
  refine aw_p 3835 (
    .a 4 8 <| .nil _ _) ?_
  refine aw_p1 (
    .a 2 9 <| .p (does_c (au_150)) <| .a 1 9 <| .p (does_ap 10) <| .a 1 11 <| .nil _ _) ?_
  refine block_normal ?_
  refine then_normal ?_
  refine aw_p1 (
    .a 2 11 <| .nil _ _) ?_
  refine then_normal ?_
  refine al_round ?_
  refine aw_p 239 (
    .a 1 11 <| .nil _ _) ?_
  refine aw_sq 478 479 ?_
  refine aw_fl 957 ?_
  refine aw_ex 0 ?_
  refine then_exit ?_
  refine then_exit ?_
  refine block_exit ?_
  refine then_normal ?_
  refine aw_sq 30 31 ?_
  refine aw_p 61 (
    .a 3 11 <| .nil _ _) ?_
  refine aw_w [(0, .slice (some ⟨0, 0, none⟩) 3 0), (1, .int .i64 1), (4, .slice none 0 0), (5, .slice (some ⟨10, 0, none⟩) 3 0), (7, .pointer (some ⟨8, 0, none⟩)), (12, .slice (some ⟨0, 0, none⟩) 3 0), (13, .int .i64 3), (15, .slice (some ⟨0, 0, none⟩) 3 0), (16, .int .i64 3), (17, .int .i64 3), (18, .bool false), (19, .pointer (some ⟨0, 4, none⟩)), (20, .agg #[.int .i64 10, .int .i64 0]), (22, .agg #[.int .i64 10, .int .i64 0]), (23, .agg #[.int .i64 10, .int .i64 0]), (24, .slice (some ⟨9, 0, none⟩) 1 0), (25, .slice (some ⟨10, 0, none⟩) 3 0), (26, .int .i64 3), (29, .bool false)] [(0, ⟨[.int .i64 0, .int .i64 0, .int .i64 5, .int .i64 1, .int .i64 10, .int .i64 0], 27, true, 2⟩), (8, ⟨[.int .i64 10, .int .i64 0], 27, true, 2⟩), (9, ⟨[.int .i64 10, .int .i64 0], 27, true, 2⟩), (10, ⟨[.int .i64 0, .int .i64 0, .int .i64 5, .int .i64 1, .int .i64 10, .int .i64 0], 27, true, 2⟩)] ?_
  refine aw_fl 123 ?_
  refine aw_sk ?_
  refine then_normal ?_
  refine aw_p 63 (
    .a 2 11 <| .p (does_mk (kl := .i64) (kc := .i64) (n' := 3) (c' := 3) 11 4 1 1 3 3 (.bool false) [.bool false, .bool false, .bool false] (by kernel_rfl) (by kernel_rfl) (by kernel_rfl) (by kernel_rfl) (by decide) (by decide) (by decide) (by decide) (by decide)) <| .a 1 12 <| .nil _ _) ?_
  refine aw_p 127 (
    .a 9 12 <| .nil _ _) ?_
  refine aw_p 255 (
    .a 6 12 <| .p (does_k [10, 11] (au_164)) <| .nil _ _) ?_
  refine aw_p 511 (
    .a 2 12 <| .p (does_mk (kl := .i64) (kc := .i64) (n' := 0) (c' := 3) 12 27 2 16 0 3 (.agg #[.int .i64 0, .int .i64 0]) [] (by kernel_rfl) (by kernel_rfl) (by kernel_rfl) (by kernel_rfl) (by decide) (by decide) (by decide) (by decide) (by decide)) <| .a 1 13 <| .nil _ _) ?_
  refine aw_sq 1022 1023 ?_
  refine aw_p 2045 (
    .a 3 13 <| .nil _ _) ?_
  refine aw_w [(0, .slice (some ⟨0, 0, none⟩) 3 0), (1, .int .i64 1), (4, .slice none 0 0), (5, .slice (some ⟨10, 0, none⟩) 3 0), (7, .pointer (some ⟨8, 0, none⟩)), (8, .slice (some ⟨11, 0, none⟩) 3 0), (9, .slice (some ⟨12, 0, none⟩) 0 0), (12, .slice (some ⟨0, 0, none⟩) 3 0), (13, .int .i64 3), (15, .slice (some ⟨0, 0, none⟩) 3 0), (16, .int .i64 3), (17, .int .i64 3), (18, .bool false), (19, .pointer (some ⟨0, 4, none⟩)), (20, .agg #[.int .i64 10, .int .i64 0]), (22, .agg #[.int .i64 10, .int .i64 0]), (23, .agg #[.int .i64 10, .int .i64 0]), (24, .slice (some ⟨9, 0, none⟩) 1 0), (25, .slice (some ⟨10, 0, none⟩) 3 0), (26, .int .i64 3), (29, .bool false), (31, .slice (some ⟨10, 0, none⟩) 3 0), (32, .int .i64 3), (33, .slice (some ⟨11, 0, none⟩) 3 0), (34, .slice (some ⟨11, 0, none⟩) 3 0), (35, .slice (some ⟨11, 0, none⟩) 3 0), (36, .slice (some ⟨10, 0, none⟩) 3 0), (37, .int .i64 3), (38, .int .i64 2), (39, .pointer (some ⟨11, 0, none⟩)), (40, .pointer (some ⟨11, 2, none⟩)), (41, .slice (some ⟨10, 0, none⟩) 3 0), (42, .slice (some ⟨11, 0, none⟩) 3 0), (43, .slice (some ⟨10, 0, none⟩) 3 0), (44, .int .i64 3), (45, .int .i64 2), (46, .int .i64 1), (48, .slice (some ⟨10, 0, none⟩) 3 0), (49, .int .i64 3), (50, .slice (some ⟨12, 0, none⟩) 0 0), (51, .slice (some ⟨10, 0, none⟩) 3 0), (52, .int .i64 3), (53, .int .i64 0)] [(0, ⟨[.int .i64 0, .int .i64 0, .int .i64 5, .int .i64 1, .int .i64 10, .int .i64 0], 27, true, 2⟩), (8, ⟨[.int .i64 10, .int .i64 0], 27, true, 2⟩), (9, ⟨[.int .i64 10, .int .i64 0], 27, true, 2⟩), (10, ⟨[.int .i64 0, .int .i64 0, .int .i64 5, .int .i64 1, .int .i64 10, .int .i64 0], 27, true, 2⟩), (11, ⟨[.bool true, .bool false, .bool true], 4, true, 1⟩), (12, ⟨[], 27, true, 2⟩)] ?_
  refine aw_bl 2 4091 ?_
  refine aw_lp 8183 ?_
  refine al_round ?_
  refine aw_p 16367 (
    .a 1 13 <| .nil _ _) ?_
  refine aw_sq 32734 32735 ?_
  refine aw_tr 65468 ?_
  refine aw_sk ?_
  refine then_normal ?_
  refine aw_sq 65470 65471 ?_
  refine aw_bl 3 130941 ?_
  refine aw_p 261883 (
    .a 6 13 <| .nil _ _) ?_
  refine aw_p 523767 (
    .a 4 14 <| .nil _ _) ?_
  refine aw_tr 1047534 ?_
  refine aw_p1 (
    .a 3 14 <| .p (does_ap 15) <| .a 1 16 <| .nil _ _) ?_
  refine block_normal ?_
  refine then_normal ?_
  refine aw_p1 (
    .a 2 16 <| .nil _ _) ?_
  refine then_normal ?_
  refine al_round ?_
  refine aw_p 16367 (
    .a 1 16 <| .nil _ _) ?_
  refine aw_sq 32734 32735 ?_
  refine aw_tr 65468 ?_
  refine aw_sk ?_
  refine then_normal ?_
  refine aw_sq 65470 65471 ?_
  refine aw_bl 3 130941 ?_
  refine aw_p 261883 (
    .a 6 16 <| .nil _ _) ?_
  refine aw_w [(0, .slice (some ⟨0, 0, none⟩) 3 0), (1, .int .i64 1), (4, .slice none 0 0), (5, .slice (some ⟨10, 0, none⟩) 3 0), (7, .pointer (some ⟨8, 0, none⟩)), (8, .slice (some ⟨11, 0, none⟩) 3 0), (9, .slice (some ⟨15, 0, none⟩) 1 0), (10, .int .i64 1), (11, .pointer (some ⟨16, 0, none⟩)), (12, .slice (some ⟨0, 0, none⟩) 3 0), (13, .int .i64 3), (15, .slice (some ⟨0, 0, none⟩) 3 0), (16, .int .i64 3), (17, .int .i64 3), (18, .bool false), (19, .pointer (some ⟨0, 4, none⟩)), (20, .agg #[.int .i64 10, .int .i64 0]), (22, .agg #[.int .i64 10, .int .i64 0]), (23, .agg #[.int .i64 10, .int .i64 0]), (24, .slice (some ⟨9, 0, none⟩) 1 0), (25, .slice (some ⟨10, 0, none⟩) 3 0), (26, .int .i64 3), (29, .bool false), (31, .slice (some ⟨10, 0, none⟩) 3 0), (32, .int .i64 3), (33, .slice (some ⟨11, 0, none⟩) 3 0), (34, .slice (some ⟨11, 0, none⟩) 3 0), (35, .slice (some ⟨11, 0, none⟩) 3 0), (36, .slice (some ⟨10, 0, none⟩) 3 0), (37, .int .i64 3), (38, .int .i64 2), (39, .pointer (some ⟨11, 0, none⟩)), (40, .pointer (some ⟨11, 2, none⟩)), (41, .slice (some ⟨10, 0, none⟩) 3 0), (42, .slice (some ⟨11, 0, none⟩) 3 0), (43, .slice (some ⟨10, 0, none⟩) 3 0), (44, .int .i64 3), (45, .int .i64 2), (46, .int .i64 1), (48, .slice (some ⟨10, 0, none⟩) 3 0), (49, .int .i64 3), (51, .slice (some ⟨10, 0, none⟩) 3 0), (52, .int .i64 3), (53, .int .i64 1), (54, .bool true), (55, .int .i64 1), (56, .pointer (some ⟨10, 2, none⟩)), (57, .agg #[.int .i64 5, .int .i64 1]), (58, .slice (some ⟨11, 0, none⟩) 3 0), (59, .int .i64 0), (60, .pointer (some ⟨11, 0, none⟩)), (61, .bool true), (63, .agg #[.int .i64 0, .int .i64 0]), (64, .slice (some ⟨14, 0, none⟩) 1 0), (65, .slice (some ⟨15, 0, none⟩) 1 0), (66, .int .i64 1)] [(0, ⟨[.int .i64 0, .int .i64 0, .int .i64 5, .int .i64 1, .int .i64 10, .int .i64 0], 27, true, 2⟩), (8, ⟨[.int .i64 10, .int .i64 0], 27, true, 2⟩), (9, ⟨[.int .i64 10, .int .i64 0], 27, true, 2⟩), (10, ⟨[.int .i64 0, .int .i64 0, .int .i64 5, .int .i64 1, .int .i64 10, .int .i64 0], 27, true, 2⟩), (11, ⟨[.bool true, .bool false, .bool true], 4, true, 1⟩), (14, ⟨[.int .i64 0, .int .i64 0], 27, true, 2⟩), (15, ⟨[.int .i64 0, .int .i64 0], 27, true, 2⟩), (16, ⟨[.int .i64 5, .int .i64 1], 27, true, 2⟩)] ?_
  refine aw_p 523767 (
    .a 4 17 <| .nil _ _) ?_
  refine aw_fl 1047535 ?_
  refine aw_sk ?_
  refine block_normal ?_
  refine then_normal ?_
  refine aw_p1 (
    .a 2 17 <| .nil _ _) ?_
  refine then_normal ?_
  refine al_round ?_
  refine aw_p 16367 (
    .a 1 17 <| .nil _ _) ?_
  refine aw_sq 32734 32735 ?_
  refine aw_tr 65468 ?_
  refine aw_sk ?_
  refine then_normal ?_
  refine aw_sq 65470 65471 ?_
  refine aw_bl 3 130941 ?_
  refine aw_p 261883 (
    .a 6 17 <| .nil _ _) ?_
  refine aw_p 523767 (
    .a 4 18 <| .nil _ _) ?_
  refine aw_tr 1047534 ?_
  refine aw_p1 (
    .a 3 18 <| .p (does_ap 19) <| .a 1 20 <| .nil _ _) ?_
  refine block_normal ?_
  refine then_normal ?_
  refine aw_p1 (
    .a 2 20 <| .nil _ _) ?_
  refine then_normal ?_
  refine al_round ?_
  refine aw_p 16367 (
    .a 1 20 <| .nil _ _) ?_
  refine aw_w [(0, .slice (some ⟨0, 0, none⟩) 3 0), (1, .int .i64 1), (4, .slice none 0 0), (5, .slice (some ⟨10, 0, none⟩) 3 0), (7, .pointer (some ⟨8, 0, none⟩)), (8, .slice (some ⟨11, 0, none⟩) 3 0), (9, .slice (some ⟨19, 0, none⟩) 2 0), (10, .int .i64 2), (11, .pointer (some ⟨17, 0, none⟩)), (12, .slice (some ⟨0, 0, none⟩) 3 0), (13, .int .i64 3), (15, .slice (some ⟨0, 0, none⟩) 3 0), (16, .int .i64 3), (17, .int .i64 3), (18, .bool false), (19, .pointer (some ⟨0, 4, none⟩)), (20, .agg #[.int .i64 10, .int .i64 0]), (22, .agg #[.int .i64 10, .int .i64 0]), (23, .agg #[.int .i64 10, .int .i64 0]), (24, .slice (some ⟨9, 0, none⟩) 1 0), (25, .slice (some ⟨10, 0, none⟩) 3 0), (26, .int .i64 3), (29, .bool false), (31, .slice (some ⟨10, 0, none⟩) 3 0), (32, .int .i64 3), (33, .slice (some ⟨11, 0, none⟩) 3 0), (34, .slice (some ⟨11, 0, none⟩) 3 0), (35, .slice (some ⟨11, 0, none⟩) 3 0), (36, .slice (some ⟨10, 0, none⟩) 3 0), (37, .int .i64 3), (38, .int .i64 2), (39, .pointer (some ⟨11, 0, none⟩)), (40, .pointer (some ⟨11, 2, none⟩)), (41, .slice (some ⟨10, 0, none⟩) 3 0), (42, .slice (some ⟨11, 0, none⟩) 3 0), (43, .slice (some ⟨10, 0, none⟩) 3 0), (44, .int .i64 3), (45, .int .i64 2), (46, .int .i64 1), (48, .slice (some ⟨10, 0, none⟩) 3 0), (49, .int .i64 3), (51, .slice (some ⟨10, 0, none⟩) 3 0), (52, .int .i64 3), (53, .int .i64 3), (54, .bool false), (55, .int .i64 2), (56, .pointer (some ⟨10, 4, none⟩)), (57, .agg #[.int .i64 10, .int .i64 0]), (58, .slice (some ⟨11, 0, none⟩) 3 0), (59, .int .i64 2), (60, .pointer (some ⟨11, 2, none⟩)), (61, .bool true), (63, .agg #[.int .i64 10, .int .i64 0]), (64, .slice (some ⟨18, 0, none⟩) 1 0), (65, .slice (some ⟨19, 0, none⟩) 2 0), (66, .int .i64 3)] [(0, ⟨[.int .i64 0, .int .i64 0, .int .i64 5, .int .i64 1, .int .i64 10, .int .i64 0], 27, true, 2⟩), (8, ⟨[.int .i64 10, .int .i64 0], 27, true, 2⟩), (9, ⟨[.int .i64 10, .int .i64 0], 27, true, 2⟩), (10, ⟨[.int .i64 0, .int .i64 0, .int .i64 5, .int .i64 1, .int .i64 10, .int .i64 0], 27, true, 2⟩), (11, ⟨[.bool true, .bool false, .bool true], 4, true, 1⟩), (17, ⟨[.int .i64 10, .int .i64 0], 27, true, 2⟩), (18, ⟨[.int .i64 10, .int .i64 0], 27, true, 2⟩), (19, ⟨[.int .i64 0, .int .i64 0, .int .i64 10, .int .i64 0], 27, true, 2⟩)] ?_
  refine aw_sq 32734 32735 ?_
  refine aw_fl 65469 ?_
  refine aw_ex 2 ?_
  refine then_exit ?_
  refine then_exit ?_
  refine block_exit ?_
  refine then_normal ?_
  refine aw_p 2047 (
    .a 2 20 <| .nil _ _) ?_
  refine aw_r [(1, 19)] [(4, .slice (some ⟨19, 0, none⟩) 2 0)] [(0, ⟨[.int .i64 0, .int .i64 0, .int .i64 5, .int .i64 1, .int .i64 10, .int .i64 0], 27, true, 2⟩), (19, ⟨[.int .i64 0, .int .i64 0, .int .i64 10, .int .i64 0], 27, true, 2⟩)] [(4, .slice (some ⟨1, 0, none⟩) 2 0)] [(0, ⟨[.int .i64 0, .int .i64 0, .int .i64 5, .int .i64 1, .int .i64 10, .int .i64 0], 27, true, 2⟩), (1, ⟨[.int .i64 0, .int .i64 0, .int .i64 10, .int .i64 0], 27, true, 2⟩)] ?_ ⟨rfl, (.slice _ _ _ _ _ rfl), trivial⟩ ⟨rfl, ⟨rfl, rfl, rfl, (.flats (by kernel_rfl))⟩, rfl, ⟨rfl, rfl, rfl, (.flats (by kernel_rfl))⟩, trivial⟩
  refine aw_rt ?_
  exact en_ret [.slice (some ⟨1, 0, none⟩) 2 0] (by kernel_rfl)

theorem au_166  :
    AC Tryz.prog 19 2 ([.slice (some ⟨0, 0, none⟩) 2 0, .slice (some ⟨1, 0, none⟩) 2 0]) [(0, ⟨[.int .i64 0, .int .i64 0, .int .i64 10, .int .i64 0], 27, true, 2⟩), (1, ⟨[.int .i64 0, .int .i64 0, .int .i64 10, .int .i64 0], 27, true, 2⟩)] (.bool true) [(0, ⟨[.int .i64 0, .int .i64 0, .int .i64 10, .int .i64 0], 27, true, 2⟩), (1, ⟨[.int .i64 0, .int .i64 0, .int .i64 10, .int .i64 0], 27, true, 2⟩)] := by
  refine ac_in Tryz.func19 (fun w0 W pin => ?_)
  refine aw_p 3 (
    .a 1 2 <| .nil _ _) ?_
  refine aw_sq 6 7 ?_
  refine aw_p 13 (
    .a 5 2 <| .nil _ _) ?_
  refine aw_fl 27 ?_
  refine aw_sk ?_
  refine then_normal ?_
  refine aw_sq 14 15 ?_
  refine aw_p 29 (
    .a 3 2 <| .nil _ _) ?_
  refine aw_bl 0 59 ?_
  refine aw_lp 119 ?_
  refine al_round ?_
  refine aw_p 239 (
    .a 1 2 <| .nil _ _) ?_
  refine aw_sq 478 479 ?_
  refine aw_tr 956 ?_
  refine aw_sk ?_
  refine then_normal ?_
  refine aw_sq 958 959 ?_
  refine aw_bl 1 1917 ?_
  refine aw_p 3835 (
    .a 2 2 <| .nil _ _) ?_
  refine aw_d 7671 (
    .a 8 2 <| .p (does_e false ((show (!((0 == 0) && ((0 == 0) && true))) = false from by decide))) <| .nil _ _) ?_
  refine aw_fl 15343 ?_
  refine aw_sk ?_
  refine block_normal ?_
  refine then_normal ?_
  refine aw_p1 (
    .a 2 2 <| .nil _ _) ?_
  refine then_normal ?_
  refine al_round ?_
  refine aw_p 239 (
    .a 1 2 <| .nil _ _) ?_
  refine aw_sq 478 479 ?_
  refine aw_tr 956 ?_
  refine aw_sk ?_
  refine then_normal ?_
  refine aw_sq 958 959 ?_
  refine aw_bl 1 1917 ?_
  refine aw_p 3835 (
    .a 2 2 <| .nil _ _) ?_
  refine aw_w [(0, .slice (some ⟨0, 0, none⟩) 2 0), (1, .slice (some ⟨1, 0, none⟩) 2 0), (4, .bool false), (5, .int .i64 1), (6, .slice (some ⟨0, 0, none⟩) 2 0), (7, .int .i64 2), (8, .slice (some ⟨1, 0, none⟩) 2 0), (9, .int .i64 2), (10, .bool false), (11, .slice (some ⟨0, 0, none⟩) 2 0), (12, .int .i64 2), (13, .int .i64 1), (14, .bool true), (15, .int .i64 1), (16, .slice (some ⟨0, 0, none⟩) 2 0), (17, .int .i64 0), (18, .pointer (some ⟨0, 0, none⟩)), (19, .agg #[.int .i64 0, .int .i64 0]), (20, .slice (some ⟨1, 0, none⟩) 2 0), (21, .int .i64 0), (22, .pointer (some ⟨1, 0, none⟩)), (23, .agg #[.int .i64 0, .int .i64 0]), (24, .bool false), (25, .int .i64 1)] [(0, ⟨[.int .i64 0, .int .i64 0, .int .i64 10, .int .i64 0], 27, true, 2⟩), (1, ⟨[.int .i64 0, .int .i64 0, .int .i64 10, .int .i64 0], 27, true, 2⟩)] ?_
  refine aw_d 7671 (
    .a 8 2 <| .p (does_e false ((show (!((10 == 10) && ((0 == 0) && true))) = false from by decide))) <| .nil _ _) ?_
  refine aw_fl 15343 ?_
  refine aw_sk ?_
  refine block_normal ?_
  refine then_normal ?_
  refine aw_p1 (
    .a 2 2 <| .nil _ _) ?_
  refine then_normal ?_
  refine al_round ?_
  refine aw_p 239 (
    .a 1 2 <| .nil _ _) ?_
  refine aw_sq 478 479 ?_
  refine aw_fl 957 ?_
  refine aw_ex 0 ?_
  refine then_exit ?_
  refine then_exit ?_
  refine block_exit ?_
  refine then_normal ?_
  refine aw_p 31 (
    .a 1 2 <| .nil _ _) ?_
  refine aw_rt ?_
  exact en_ret [.bool true] (by kernel_rfl)

theorem h6begun_ok  :
    AC Tryz.prog 4 0 ([]) [] (.bool true) [] := by
  refine ac_in Tryz.func4 (fun w0 W pin => ?_)
  refine aw_p 3 (
    .a 1 1 <| .nil _ _) ?_
  refine aw_p 7 (
    .a 1 1 <| .nil _ _) ?_
  refine aw_p 15 (
    .a 1 1 <| .p (does_c (au_1)) <| .a 1 1 <| .p (does_c (au_2)) <| .a 1 1 <| .p (does_c (au_3)) <| .a 1 1 <| .p (does_c (au_4)) <| .a 2 1 <| .nil _ _) ?_
  refine aw_p 31 (
    .a 1 2 <| .p (does_c (au_1)) <| .a 1 2 <| .p (does_c (au_5)) <| .a 1 2 <| .p (does_c (au_6)) <| .a 1 2 <| .p (does_c (au_7)) <| .p (does_c (au_75)) <| .a 6 2 <| .nil _ _) ?_
  refine aw_w [(0, .bool false), (1, .func (.func 12) #[] #[]), (2, .slice (some ⟨1, 0, none⟩) 4 0), (3, .pointer (some ⟨2, 0, none⟩)), (4, .int .i64 0), (5, .func (.func 12) #[] #[]), (6, .agg #[.int .i64 0, .int .i64 0]), (7, .func (.func 12) #[] #[]), (8, .agg #[.int .i64 2, .int .i64 0]), (9, .func (.func 12) #[] #[]), (10, .agg #[.int .i64 2, .int .i64 2]), (11, .func (.func 12) #[] #[]), (12, .agg #[.int .i64 0, .int .i64 2]), (13, .slice (some ⟨1, 0, none⟩) 4 0)] [(1, ⟨[.int .i64 0, .int .i64 0, .int .i64 2, .int .i64 0, .int .i64 2, .int .i64 2, .int .i64 0, .int .i64 2], 27, true, 2⟩), (2, ⟨[.int .i64 1, .int .i64 2, .int .i64 1, .int .i64 2], 46, true, 4⟩)] ?_
  refine aw_p 63 (
    .a 7 3 <| .p (does_e true ((show (((1 == 1) && ((2 == 2) && true)) && (((1 == 1) && ((2 == 2) && true)) && true)) = true from by decide))) <| .a 3 3 <| .p (does_k [1] (au_85)) <| .a 5 3 <| .p (does_c (au_5)) <| .p (does_k [1] (au_110)) <| .a 3 3 <| .p (does_c (au_112)) <| .p (does_c (au_113)) <|
    .p (does_e true ((show ((0 == 0) && ((15 == 15) && true)) = true from by decide))) <| .a 3 3 <| .p (does_k [1, 3] (au_144)) <| .a 5 4 <| .p (does_c (au_1)) <| .a 1 4 <| .p (does_c (au_145)) <| .a 1 4 <| .p (does_c (au_146)) <| .a 1 4 <| .p (does_k [4, 5] (au_165)) <| .a 1 6 <| .p (does_c (au_1)) <|
    .a 1 6 <| .p (does_c (au_146)) <| .a 1 6 <| .p (does_k [5, 6] (au_166)) <| .a 2 7 <| .nil _ _) ?_
  refine aw_w [(0, .bool true), (1, .func (.func 12) #[] #[]), (3, .pointer (some ⟨2, 0, none⟩)), (5, .func (.func 12) #[] #[]), (6, .agg #[.int .i64 0, .int .i64 0]), (7, .func (.func 12) #[] #[]), (8, .agg #[.int .i64 2, .int .i64 0]), (9, .func (.func 12) #[] #[]), (10, .agg #[.int .i64 2, .int .i64 2]), (11, .func (.func 12) #[] #[]), (12, .agg #[.int .i64 0, .int .i64 2]), (13, .slice (some ⟨1, 0, none⟩) 4 0)] [(1, ⟨[.int .i64 0, .int .i64 0, .int .i64 2, .int .i64 0, .int .i64 2, .int .i64 2, .int .i64 0, .int .i64 2], 27, true, 2⟩), (2, ⟨[.int .i64 1, .int .i64 2, .int .i64 1, .int .i64 2], 46, true, 4⟩)] ?_
  refine aw_rt ?_
  exact en_ret [.bool true] (by kernel_rfl)


end Go.Proofs.YtcokagabchjilaaGreat.Am
