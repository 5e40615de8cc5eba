import Derived.Test.YtndkhgfecnbmnaaGreatProg
import Derived.Test.YtndkhgfecnbmnaaGreatM2
import Derived.Test.YtndkhgfecnbmnaaGreatM3
namespace Go.Proofs.YtndkhgfecnbmnaaGreat.Am
open Go Go.Proofs
set_option maxRecDepth 100000
set_option maxHeartbeats 4000000
set_option linter.unusedVariables false
set_option linter.unusedSimpArgs false
theorem au_1  :
    AC Tryz.prog 16 0 ([.int .i64 0, .int .i64 0]) [] (.agg #[.int .i64 0, .int .i64 0]) [] := by
  refine ac_in Tryz.func16 (fun w0 W pin => ?_)
  refine aw_p 3 (
    .a 1 1 <| .nil _ _) ?_
  refine aw_p 7 (
    .a 4 2 <| .nil _ _) ?_
  refine aw_rt ?_
  exact en_ret [.agg #[.int .i64 0, .int .i64 0]] (by kernel_rfl)
theorem au_2  :
    AC Tryz.prog 16 0 ([.int .i64 2, .int .i64 0]) [] (.agg #[.int .i64 2, .int .i64 0]) [] := by
  refine ac_in Tryz.func16 (fun w0 W pin => ?_)
  refine aw_p 3 (
    .a 1 1 <| .nil _ _) ?_
  refine aw_p 7 (
    .a 4 2 <| .nil _ _) ?_
  refine aw_rt ?_
  exact en_ret [.agg #[.int .i64 2, .int .i64 0]] (by kernel_rfl)
theorem au_3  :
    AC Tryz.prog 16 0 ([.int .i64 2, .int .i64 2]) [] (.agg #[.int .i64 2, .int .i64 2]) [] := by
  refine ac_in Tryz.func16 (fun w0 W pin => ?_)
  refine aw_p 3 (
    .a 1 1 <| .nil _ _) ?_
  refine aw_p 7 (
    .a 4 2 <| .nil _ _) ?_
  refine aw_rt ?_
  exact en_ret [.agg #[.int .i64 2, .int .i64 2]] (by kernel_rfl)
theorem au_4  :
    AC Tryz.prog 16 0 ([.int .i64 0, .int .i64 2]) [] (.agg #[.int .i64 0, .int .i64 2]) [] := by
  refine ac_in Tryz.func16 (fun w0 W pin => ?_)
  refine aw_p 3 (
    .a 1 1 <| .nil _ _) ?_
  refine aw_p 7 (
    .a 4 2 <| .nil _ _) ?_
  refine aw_rt ?_
  exact en_ret [.agg #[.int .i64 0, .int .i64 2]] (by kernel_rfl)
theorem au_5  :
    AC Tryz.prog 16 0 ([.int .i64 1, .int .i64 1]) [] (.agg #[.int .i64 1, .int .i64 1]) [] := by
  refine ac_in Tryz.func16 (fun w0 W pin => ?_)
  refine aw_p 3 (
    .a 1 1 <| .nil _ _) ?_
  refine aw_p 7 (
    .a 4 2 <| .nil _ _) ?_
  refine aw_rt ?_
  exact en_ret [.agg #[.int .i64 1, .int .i64 1]] (by kernel_rfl)
theorem au_6  :
    AC Tryz.prog 16 0 ([.int .i64 0, .int .i64 1]) [] (.agg #[.int .i64 0, .int .i64 1]) [] := by
  refine ac_in Tryz.func16 (fun w0 W pin => ?_)
  refine aw_p 3 (
    .a 1 1 <| .nil _ _) ?_
  refine aw_p 7 (
    .a 4 2 <| .nil _ _) ?_
  refine aw_rt ?_
  exact en_ret [.agg #[.int .i64 0, .int .i64 1]] (by kernel_rfl)
theorem au_7  :
    AC Tryz.prog 16 0 ([.int .i64 1, .int .i64 0]) [] (.agg #[.int .i64 1, .int .i64 0]) [] := by
  refine ac_in Tryz.func16 (fun w0 W pin => ?_)
  refine aw_p 3 (
    .a 1 1 <| .nil _ _) ?_
  refine aw_p 7 (
    .a 4 2 <| .nil _ _) ?_
  refine aw_rt ?_
  exact en_ret [.agg #[.int .i64 1, .int .i64 0]] (by kernel_rfl)
theorem au_8  :
    AC Tryz.prog 66 0 ([.int .i64 0, .int .i64 1048576]) [] (.int .i64 0) [] := by
  refine ac_in Tryz.func66 (fun w0 W pin => ?_)
  refine aw_p 3 (
    .a 1 1 <| .nil _ _) ?_
  refine aw_p 7 (
    .a 7 1 <| .nil _ _) ?_
  refine aw_rt ?_
  exact en_ret [.int .i64 0] (by kernel_rfl)
theorem au_9  :
    AC Tryz.prog 37 0 ([.agg #[.int .i64 0, .int .i64 0]]) [] (.agg #[.int .i64 0, .int .i64 0]) [] := by
  refine ac_in Tryz.func37 (fun w0 W pin => ?_)
  refine aw_p 3 (
    .a 2 1 <| .nil _ _) ?_
  refine aw_d 7 (
    .a 2 3 <| .p (does_c (au_8)) <| .a 2 3 <| .p (does_c (au_8)) <| .a 2 3 <| .nil _ _) ?_
  refine aw_rt ?_
  exact en_ret [.agg #[.int .i64 0, .int .i64 0]] (by kernel_rfl)
theorem au_10  :
    AC Tryz.prog 66 0 ([.int .i64 1, .int .i64 1048576]) [] (.int .i64 1) [] := by
  refine ac_in Tryz.func66 (fun w0 W pin => ?_)
  refine aw_p 3 (
    .a 1 1 <| .nil _ _) ?_
  refine aw_p 7 (
    .a 7 1 <| .nil _ _) ?_
  refine aw_rt ?_
  exact en_ret [.int .i64 1] (by kernel_rfl)
theorem au_11  :
    AC Tryz.prog 37 0 ([.agg #[.int .i64 1, .int .i64 1]]) [] (.agg #[.int .i64 1, .int .i64 1]) [] := by
  refine ac_in Tryz.func37 (fun w0 W pin => ?_)
  refine aw_p 3 (
    .a 2 1 <| .nil _ _) ?_
  refine aw_d 7 (
    .a 2 3 <| .p (does_c (au_10)) <| .a 2 3 <| .p (does_c (au_10)) <| .a 2 3 <| .nil _ _) ?_
  refine aw_rt ?_
  exact en_ret [.agg #[.int .i64 1, .int .i64 1]] (by kernel_rfl)
theorem au_12  :
    AC Tryz.prog 37 0 ([.agg #[.int .i64 0, .int .i64 1]]) [] (.agg #[.int .i64 0, .int .i64 1]) [] := by
  refine ac_in Tryz.func37 (fun w0 W pin => ?_)
  refine aw_p 3 (
    .a 2 1 <| .nil _ _) ?_
  refine aw_d 7 (
    .a 2 3 <| .p (does_c (au_8)) <| .a 2 3 <| .p (does_c (au_10)) <| .a 2 3 <| .nil _ _) ?_
  refine aw_rt ?_
  exact en_ret [.agg #[.int .i64 0, .int .i64 1]] (by kernel_rfl)
theorem au_13  :
    AC Tryz.prog 37 0 ([.agg #[.int .i64 1, .int .i64 0]]) [] (.agg #[.int .i64 1, .int .i64 0]) [] := by
  refine ac_in Tryz.func37 (fun w0 W pin => ?_)
  refine aw_p 3 (
    .a 2 1 <| .nil _ _) ?_
  refine aw_d 7 (
    .a 2 3 <| .p (does_c (au_10)) <| .a 2 3 <| .p (does_c (au_8)) <| .a 2 3 <| .nil _ _) ?_
  refine aw_rt ?_
  exact en_ret [.agg #[.int .i64 1, .int .i64 0]] (by kernel_rfl)
theorem au_14  :
    AC Tryz.prog 67 0 ([.agg #[.int .i64 0, .int .i64 0], .agg #[.int .i64 1, .int .i64 1]]) [] (.agg #[.int .i64 1, .int .i64 1]) [] := by
  refine ac_in Tryz.func67 (fun w0 W pin => ?_)
  refine aw_p 3 (
    .a 3 1 <| .nil _ _) ?_
  refine aw_d 7 (
    .a 1 4 <| .p (does_c (au_9)) <| .a 1 4 <| .p (does_c (au_11)) <| .a 2 4 <| .nil _ _) ?_
  refine aw_p 15 (
    .a 12 4 <| .nil _ _) ?_
  refine aw_rt ?_
  exact en_ret [.agg #[.int .i64 1, .int .i64 1]] (by kernel_rfl)
theorem au_15  :
    AC Tryz.prog 67 0 ([.agg #[.int .i64 0, .int .i64 0], .agg #[.int .i64 0, .int .i64 1]]) [] (.agg #[.int .i64 0, .int .i64 1]) [] := by
  refine ac_in Tryz.func67 (fun w0 W pin => ?_)
  refine aw_p 3 (
    .a 3 1 <| .nil _ _) ?_
  refine aw_d 7 (
    .a 1 4 <| .p (does_c (au_9)) <| .a 1 4 <| .p (does_c (au_12)) <| .a 2 4 <| .nil _ _) ?_
  refine aw_p 15 (
    .a 12 4 <| .nil _ _) ?_
  refine aw_rt ?_
  exact en_ret [.agg #[.int .i64 0, .int .i64 1]] (by kernel_rfl)
theorem au_16  :
    AC Tryz.prog 38 0 ([.agg #[.int .i64 0, .int .i64 0], .agg #[.int .i64 1, .int .i64 1], .agg #[.int .i64 0, .int .i64 1]]) [] (.int .i64 1) [] := by
  refine ac_in Tryz.func38 (fun w0 W pin => ?_)
  refine aw_p 3 (
    .a 4 1 <| .nil _ _) ?_
  refine aw_d 7 (
    .a 2 4 <| .p (does_c (au_14)) <| .a 2 4 <| .p (does_c (au_15)) <| .a 4 4 <| .nil _ _) ?_
  refine aw_p 15 (
    .a 12 6 <| .nil _ _) ?_
  refine aw_w [(6, .int .i64 1)] [] ?_
  refine aw_rt ?_
  exact en_ret [.int .i64 1] (by kernel_rfl)
theorem au_17  :
    AC Tryz.prog 88 0 ([.int .i64 1]) [] (.bool false) [] := by
  refine ac_in Tryz.func88 (fun w0 W pin => ?_)
  refine aw_p 3 (
    .a 1 1 <| .nil _ _) ?_
  refine aw_p 7 (
    .a 4 1 <| .nil _ _) ?_
  refine aw_rt ?_
  exact en_ret [.bool false] (by kernel_rfl)
theorem au_18  :
    AC Tryz.prog 88 0 ([.int .i64 0]) [] (.bool false) [] := by
  refine ac_in Tryz.func88 (fun w0 W pin => ?_)
  refine aw_p 3 (
    .a 1 1 <| .nil _ _) ?_
  refine aw_p 7 (
    .a 4 1 <| .nil _ _) ?_
  refine aw_rt ?_
  exact en_ret [.bool false] (by kernel_rfl)
theorem au_19  :
    AC Tryz.prog 58 0 ([.int .i64 1, .int .i64 0]) [] (.int .i64 1) [] := by
  refine ac_in Tryz.func58 (fun w0 W pin => ?_)
  refine aw_p 3 (
    .a 1 1 <| .nil _ _) ?_
  refine aw_p 7 (
    .a 1 1 <| .p (does_c (au_17)) <| .a 1 1 <| .nil _ _) ?_
  refine aw_p 15 (
    .a 1 1 <| .p (does_c (au_18)) <| .a 1 1 <| .nil _ _) ?_
  refine aw_sq 30 31 ?_
  refine aw_p 61 (
    .a 1 1 <| .nil _ _) ?_
  refine aw_fl 123 ?_
  refine aw_sk ?_
  refine then_normal ?_
  refine aw_sq 62 63 ?_
  refine aw_p 125 (
    .a 1 1 <| .nil _ _) ?_
  refine aw_fl 251 ?_
  refine aw_sk ?_
  refine then_normal ?_
  refine aw_sq 126 127 ?_
  refine aw_p 253 (
    .a 3 1 <| .nil _ _) ?_
  refine aw_fl 507 ?_
  refine aw_sk ?_
  refine then_normal ?_
  refine aw_sq 254 255 ?_
  refine aw_p 509 (
    .a 3 1 <| .nil _ _) ?_
  refine aw_tr 1018 ?_
  refine aw_p 2037 (
    .a 1 1 <| .nil _ _) ?_
  refine aw_rt ?_
  refine then_ret ?_
  exact en_ret [.int .i64 1] (by kernel_rfl)
theorem au_20  :
    AC Tryz.prog 40 0 ([.agg #[.int .i64 0, .int .i64 0], .agg #[.int .i64 1, .int .i64 1], .agg #[.int .i64 0, .int .i64 1]]) [] (.int .i64 1) [] := by
  refine ac_in Tryz.func40 (fun w0 W pin => ?_)
  refine aw_p 3 (
    .a 4 1 <| .nil _ _) ?_
  refine aw_p 7 (
    .a 3 4 <| .p (does_c (au_16)) <| .p (does_c (au_19)) <| .a 1 4 <| .nil _ _) ?_
  refine aw_rt ?_
  exact en_ret [.int .i64 1] (by kernel_rfl)
theorem au_21  :
    AC Tryz.prog 67 0 ([.agg #[.int .i64 0, .int .i64 0], .agg #[.int .i64 1, .int .i64 0]]) [] (.agg #[.int .i64 1, .int .i64 0]) [] := by
  refine ac_in Tryz.func67 (fun w0 W pin => ?_)
  refine aw_p 3 (
    .a 3 1 <| .nil _ _) ?_
  refine aw_d 7 (
    .a 1 4 <| .p (does_c (au_9)) <| .a 1 4 <| .p (does_c (au_13)) <| .a 2 4 <| .nil _ _) ?_
  refine aw_p 15 (
    .a 12 4 <| .nil _ _) ?_
  refine aw_rt ?_
  exact en_ret [.agg #[.int .i64 1, .int .i64 0]] (by kernel_rfl)
theorem au_22  :
    AC Tryz.prog 38 0 ([.agg #[.int .i64 0, .int .i64 0], .agg #[.int .i64 1, .int .i64 1], .agg #[.int .i64 1, .int .i64 0]]) [] (.int .i64 (-1)) [] := by
  refine ac_in Tryz.func38 (fun w0 W pin => ?_)
  refine aw_p 3 (
    .a 4 1 <| .nil _ _) ?_
  refine aw_d 7 (
    .a 2 4 <| .p (does_c (au_14)) <| .a 2 4 <| .p (does_c (au_21)) <| .a 4 4 <| .nil _ _) ?_
  refine aw_p 15 (
    .a 12 6 <| .nil _ _) ?_
  refine aw_w [(6, .int .i64 (-1))] [] ?_
  refine aw_rt ?_
  exact en_ret [.int .i64 (-1)] (by kernel_rfl)
theorem au_23  :
    AC Tryz.prog 88 0 ([.int .i64 (-1)]) [] (.bool false) [] := by
  refine ac_in Tryz.func88 (fun w0 W pin => ?_)
  refine aw_p 3 (
    .a 1 1 <| .nil _ _) ?_
  refine aw_p 7 (
    .a 4 1 <| .nil _ _) ?_
  refine aw_rt ?_
  exact en_ret [.bool false] (by kernel_rfl)
theorem au_24  :
    AC Tryz.prog 58 0 ([.int .i64 (-1), .int .i64 0]) [] (.int .i64 (-1)) [] := by
  refine ac_in Tryz.func58 (fun w0 W pin => ?_)
  refine aw_p 3 (
    .a 1 1 <| .nil _ _) ?_
  refine aw_p 7 (
    .a 1 1 <| .p (does_c (au_23)) <| .a 1 1 <| .nil _ _) ?_
  refine aw_p 15 (
    .a 1 1 <| .p (does_c (au_18)) <| .a 1 1 <| .nil _ _) ?_
  refine aw_sq 30 31 ?_
  refine aw_p 61 (
    .a 1 1 <| .nil _ _) ?_
  refine aw_fl 123 ?_
  refine aw_sk ?_
  refine then_normal ?_
  refine aw_sq 62 63 ?_
  refine aw_p 125 (
    .a 1 1 <| .nil _ _) ?_
  refine aw_fl 251 ?_
  refine aw_sk ?_
  refine then_normal ?_
  refine aw_sq 126 127 ?_
  refine aw_p 253 (
    .a 3 1 <| .nil _ _) ?_
  refine aw_tr 506 ?_
  refine aw_p 1013 (
    .a 1 1 <| .nil _ _) ?_
  refine aw_rt ?_
  refine then_ret ?_
  exact en_ret [.int .i64 (-1)] (by kernel_rfl)
theorem au_25  :
    AC Tryz.prog 40 0 ([.agg #[.int .i64 0, .int .i64 0], .agg #[.int .i64 1, .int .i64 1], .agg #[.int .i64 1, .int .i64 0]]) [] (.int .i64 (-1)) [] := by
  refine ac_in Tryz.func40 (fun w0 W pin => ?_)
  refine aw_p 3 (
    .a 4 1 <| .nil _ _) ?_
  refine aw_p 7 (
    .a 3 4 <| .p (does_c (au_22)) <| .p (does_c (au_24)) <| .a 1 4 <| .nil _ _) ?_
  refine aw_rt ?_
  exact en_ret [.int .i64 (-1)] (by kernel_rfl)
theorem au_26  :
    AC Tryz.prog 67 0 ([.agg #[.int .i64 0, .int .i64 1], .agg #[.int .i64 1, .int .i64 0]]) [] (.agg #[.int .i64 1, .int .i64 (-1)]) [] := by
  refine ac_in Tryz.func67 (fun w0 W pin => ?_)
  refine aw_p 3 (
    .a 3 1 <| .nil _ _) ?_
  refine aw_d 7 (
    .a 1 4 <| .p (does_c (au_12)) <| .a 1 4 <| .p (does_c (au_13)) <| .a 2 4 <| .nil _ _) ?_
  refine aw_p 15 (
    .a 12 4 <| .nil _ _) ?_
  refine aw_rt ?_
  exact en_ret [.agg #[.int .i64 1, .int .i64 (-1)]] (by kernel_rfl)
theorem au_27  :
    AC Tryz.prog 67 0 ([.agg #[.int .i64 0, .int .i64 1], .agg #[.int .i64 0, .int .i64 0]]) [] (.agg #[.int .i64 0, .int .i64 (-1)]) [] := by
  refine ac_in Tryz.func67 (fun w0 W pin => ?_)
  refine aw_p 3 (
    .a 3 1 <| .nil _ _) ?_
  refine aw_d 7 (
    .a 1 4 <| .p (does_c (au_12)) <| .a 1 4 <| .p (does_c (au_9)) <| .a 2 4 <| .nil _ _) ?_
  refine aw_p 15 (
    .a 12 4 <| .nil _ _) ?_
  refine aw_rt ?_
  exact en_ret [.agg #[.int .i64 0, .int .i64 (-1)]] (by kernel_rfl)
theorem au_28  :
    AC Tryz.prog 38 0 ([.agg #[.int .i64 0, .int .i64 1], .agg #[.int .i64 1, .int .i64 0], .agg #[.int .i64 0, .int .i64 0]]) [] (.int .i64 (-1)) [] := by
  refine ac_in Tryz.func38 (fun w0 W pin => ?_)
  refine aw_p 3 (
    .a 4 1 <| .nil _ _) ?_
  refine aw_d 7 (
    .a 2 4 <| .p (does_c (au_26)) <| .a 2 4 <| .p (does_c (au_27)) <| .a 4 4 <| .nil _ _) ?_
  refine aw_p 15 (
    .a 12 6 <| .nil _ _) ?_
  refine aw_w [(6, .int .i64 (-1))] [] ?_
  refine aw_rt ?_
  exact en_ret [.int .i64 (-1)] (by kernel_rfl)
theorem au_29  :
    AC Tryz.prog 40 0 ([.agg #[.int .i64 0, .int .i64 1], .agg #[.int .i64 1, .int .i64 0], .agg #[.int .i64 0, .int .i64 0]]) [] (.int .i64 (-1)) [] := by
  refine ac_in Tryz.func40 (fun w0 W pin => ?_)
  refine aw_p 3 (
    .a 4 1 <| .nil _ _) ?_
  refine aw_p 7 (
    .a 3 4 <| .p (does_c (au_28)) <| .p (does_c (au_24)) <| .a 1 4 <| .nil _ _) ?_
  refine aw_rt ?_
  exact en_ret [.int .i64 (-1)] (by kernel_rfl)
theorem au_30  :
    AC Tryz.prog 67 0 ([.agg #[.int .i64 0, .int .i64 1], .agg #[.int .i64 1, .int .i64 1]]) [] (.agg #[.int .i64 1, .int .i64 0]) [] := by
  refine ac_in Tryz.func67 (fun w0 W pin => ?_)
  refine aw_p 3 (
    .a 3 1 <| .nil _ _) ?_
  refine aw_d 7 (
    .a 1 4 <| .p (does_c (au_12)) <| .a 1 4 <| .p (does_c (au_11)) <| .a 2 4 <| .nil _ _) ?_
  refine aw_p 15 (
    .a 12 4 <| .nil _ _) ?_
  refine aw_rt ?_
  exact en_ret [.agg #[.int .i64 1, .int .i64 0]] (by kernel_rfl)
theorem au_31  :
    AC Tryz.prog 38 0 ([.agg #[.int .i64 0, .int .i64 1], .agg #[.int .i64 1, .int .i64 0], .agg #[.int .i64 1, .int .i64 1]]) [] (.int .i64 1) [] := by
  refine ac_in Tryz.func38 (fun w0 W pin => ?_)
  refine aw_p 3 (
    .a 4 1 <| .nil _ _) ?_
  refine aw_d 7 (
    .a 2 4 <| .p (does_c (au_26)) <| .a 2 4 <| .p (does_c (au_30)) <| .a 4 4 <| .nil _ _) ?_
  refine aw_p 15 (
    .a 12 6 <| .nil _ _) ?_
  refine aw_w [(6, .int .i64 1)] [] ?_
  refine aw_rt ?_
  exact en_ret [.int .i64 1] (by kernel_rfl)
theorem au_32  :
    AC Tryz.prog 40 0 ([.agg #[.int .i64 0, .int .i64 1], .agg #[.int .i64 1, .int .i64 0], .agg #[.int .i64 1, .int .i64 1]]) [] (.int .i64 1) [] := by
  refine ac_in Tryz.func40 (fun w0 W pin => ?_)
  refine aw_p 3 (
    .a 4 1 <| .nil _ _) ?_
  refine aw_p 7 (
    .a 3 4 <| .p (does_c (au_31)) <| .p (does_c (au_19)) <| .a 1 4 <| .nil _ _) ?_
  refine aw_rt ?_
  exact en_ret [.int .i64 1] (by kernel_rfl)
theorem au_33  :
    AC Tryz.prog 41 0 ([.agg #[.int .i64 0, .int .i64 0], .agg #[.int .i64 1, .int .i64 1], .agg #[.int .i64 0, .int .i64 1], .agg #[.int .i64 1, .int .i64 0]]) [] (.int .i64 1) [] := by
  refine ac_in Tryz.func41 (fun w0 W pin => ?_)
  refine aw_p 3 (
    .a 5 1 <| .nil _ _) ?_
  refine aw_d 7 (
    .a 1 5 <| .p (does_c (au_9)) <| .a 1 5 <| .p (does_c (au_11)) <| .a 1 5 <| .p (does_c (au_12)) <| .a 1 5 <| .p (does_c (au_13)) <| .a 4 5 <| .nil _ _) ?_
  refine aw_sq 14 15 ?_
  refine aw_d 29 (
    .a 3 5 <| .p (does_c (au_20)) <| .a 3 5 <| .p (does_c (au_25)) <| .a 6 5 <| .p (does_c (au_29)) <| .a 3 5 <| .p (does_c (au_32)) <| .a 3 5 <| .nil _ _) ?_
  refine aw_w [(4, .pointer (some ⟨1, 0, none⟩)), (5, .pointer (some ⟨2, 0, none⟩)), (6, .pointer (some ⟨3, 0, none⟩)), (7, .pointer (some ⟨4, 0, none⟩)), (8, .int .i64 0), (38, .bool true)] [(1, ⟨[.int .i64 0, .int .i64 0], 28, true, 2⟩), (2, ⟨[.int .i64 1, .int .i64 1], 28, true, 2⟩), (3, ⟨[.int .i64 0, .int .i64 1], 28, true, 2⟩), (4, ⟨[.int .i64 1, .int .i64 0], 28, true, 2⟩)] ?_
  refine aw_tr 58 ?_
  refine aw_p 117 (
    .a 1 5 <| .nil _ _) ?_
  refine aw_rt ?_
  refine then_ret ?_
  exact en_ret [.int .i64 1] (by kernel_rfl)
theorem au_34  :
    AC Tryz.prog 39 0 ([.agg #[.int .i64 0, .int .i64 1], .agg #[.int .i64 1, .int .i64 0], .agg #[.int .i64 0, .int .i64 0]]) [] (.bool false) [] := by
  refine ac_in Tryz.func39 (fun w0 W pin => ?_)
  refine aw_p 3 (
    .a 4 1 <| .nil _ _) ?_
  refine aw_p 7 (
    .a 3 4 <| .p (does_c (au_29)) <| .a 9 4 <| .nil _ _) ?_
  refine aw_rt ?_
  exact en_ret [.bool false] (by kernel_rfl)
theorem au_35  :
    AC Tryz.prog 69 1 ([.agg #[.int .i64 0, .int .i64 0], .agg #[.int .i64 0, .int .i64 1], .agg #[.int .i64 1, .int .i64 0], .pointer (some ⟨0, 0, none⟩)]) [(0, ⟨[.slice none 0 0], 39, true, 1⟩)] (.tuple #[]) [(0, ⟨[.slice none 0 0], 39, true, 1⟩)] := by
  refine ac_in Tryz.func69 (fun w0 W pin => ?_)
  refine aw_p 3 (
    .a 3 1 <| .nil _ _) ?_
  refine aw_sq 6 7 ?_
  refine aw_p 13 (
    .a 3 4 <| .p (does_c (au_34)) <| .a 1 4 <| .nil _ _) ?_
  refine aw_tr 26 ?_
  refine aw_rt ?_
  refine then_ret ?_
  exact en_ret [] (by kernel_rfl)
theorem au_36  :
    AC Tryz.prog 39 0 ([.agg #[.int .i64 0, .int .i64 1], .agg #[.int .i64 1, .int .i64 0], .agg #[.int .i64 1, .int .i64 1]]) [] (.bool false) [] := by
  refine ac_in Tryz.func39 (fun w0 W pin => ?_)
  refine aw_p 3 (
    .a 4 1 <| .nil _ _) ?_
  refine aw_p 7 (
    .a 3 4 <| .p (does_c (au_32)) <| .a 9 4 <| .nil _ _) ?_
  refine aw_rt ?_
  exact en_ret [.bool false] (by kernel_rfl)
theorem au_37  :
    AC Tryz.prog 69 1 ([.agg #[.int .i64 1, .int .i64 1], .agg #[.int .i64 0, .int .i64 1], .agg #[.int .i64 1, .int .i64 0], .pointer (some ⟨0, 0, none⟩)]) [(0, ⟨[.slice none 0 0], 39, true, 1⟩)] (.tuple #[]) [(0, ⟨[.slice none 0 0], 39, true, 1⟩)] := by
  refine ac_in Tryz.func69 (fun w0 W pin => ?_)
  refine aw_p 3 (
    .a 3 1 <| .nil _ _) ?_
  refine aw_sq 6 7 ?_
  refine aw_p 13 (
    .a 3 4 <| .p (does_c (au_36)) <| .a 1 4 <| .nil _ _) ?_
  refine aw_tr 26 ?_
  refine aw_rt ?_
  refine then_ret ?_
  exact en_ret [] (by kernel_rfl)
theorem au_38  :
    AC Tryz.prog 39 0 ([.agg #[.int .i64 0, .int .i64 0], .agg #[.int .i64 1, .int .i64 1], .agg #[.int .i64 0, .int .i64 1]]) [] (.bool false) [] := by
  refine ac_in Tryz.func39 (fun w0 W pin => ?_)
  refine aw_p 3 (
    .a 4 1 <| .nil _ _) ?_
  refine aw_p 7 (
    .a 3 4 <| .p (does_c (au_20)) <| .a 9 4 <| .nil _ _) ?_
  refine aw_rt ?_
  exact en_ret [.bool false] (by kernel_rfl)
theorem au_39  :
    AC Tryz.prog 69 1 ([.agg #[.int .i64 0, .int .i64 1], .agg #[.int .i64 0, .int .i64 0], .agg #[.int .i64 1, .int .i64 1], .pointer (some ⟨0, 0, none⟩)]) [(0, ⟨[.slice none 0 0], 39, true, 1⟩)] (.tuple #[]) [(0, ⟨[.slice none 0 0], 39, true, 1⟩)] := by
  refine ac_in Tryz.func69 (fun w0 W pin => ?_)
  refine aw_p 3 (
    .a 3 1 <| .nil _ _) ?_
  refine aw_sq 6 7 ?_
  refine aw_p 13 (
    .a 3 4 <| .p (does_c (au_38)) <| .a 1 4 <| .nil _ _) ?_
  refine aw_tr 26 ?_
  refine aw_rt ?_
  refine then_ret ?_
  exact en_ret [] (by kernel_rfl)
theorem au_40  :
    AC Tryz.prog 39 0 ([.agg #[.int .i64 0, .int .i64 0], .agg #[.int .i64 1, .int .i64 1], .agg #[.int .i64 1, .int .i64 0]]) [] (.bool false) [] := by
  refine ac_in Tryz.func39 (fun w0 W pin => ?_)
  refine aw_p 3 (
    .a 4 1 <| .nil _ _) ?_
  refine aw_p 7 (
    .a 3 4 <| .p (does_c (au_25)) <| .a 9 4 <| .nil _ _) ?_
  refine aw_rt ?_
  exact en_ret [.bool false] (by kernel_rfl)
theorem au_41  :
    AC Tryz.prog 69 1 ([.agg #[.int .i64 1, .int .i64 0], .agg #[.int .i64 0, .int .i64 0], .agg #[.int .i64 1, .int .i64 1], .pointer (some ⟨0, 0, none⟩)]) [(0, ⟨[.slice none 0 0], 39, true, 1⟩)] (.tuple #[]) [(0, ⟨[.slice none 0 0], 39, true, 1⟩)] := by
  refine ac_in Tryz.func69 (fun w0 W pin => ?_)
  refine aw_p 3 (
    .a 3 1 <| .nil _ _) ?_
  refine aw_sq 6 7 ?_
  refine aw_p 13 (
    .a 3 4 <| .p (does_c (au_40)) <| .a 1 4 <| .nil _ _) ?_
  refine aw_tr 26 ?_
  refine aw_rt ?_
  refine then_ret ?_
  exact en_ret [] (by kernel_rfl)
theorem au_42  :
    AC Tryz.prog 42 0 ([.agg #[.int .i64 0, .int .i64 0], .agg #[.int .i64 1, .int .i64 1], .agg #[.int .i64 0, .int .i64 1], .agg #[.int .i64 1, .int .i64 0]]) [] (.slice none 0 0) [] := by
  refine ac_in Tryz.func42 (fun w0 W pin => ?_)
  refine aw_p 3 (
    .a 5 1 <| .nil _ _) ?_
  refine aw_p 7 (
    .a 1 5 <| .nil _ _) ?_
  refine aw_p 15 (
    .a 2 6 <| .nil _ _) ?_
  refine aw_p 31 (
    .a 4 6 <| .p (does_k [5] (au_35)) <| .nil _ _) ?_
  refine aw_p 63 (
    .a 4 6 <| .p (does_k [5] (au_37)) <| .nil _ _) ?_
  refine aw_p 127 (
    .a 4 6 <| .p (does_k [5] (au_39)) <| .nil _ _) ?_
  refine aw_p 255 (
    .a 4 6 <| .p (does_k [5] (au_41)) <| .nil _ _) ?_
  refine aw_w [(8, .slice none 0 0), (9, .pointer (some ⟨5, 0, none⟩))] [(5, ⟨[.slice none 0 0], 39, true, 1⟩)] ?_
  refine aw_p 511 (
    .a 2 6 <| .nil _ _) ?_
  refine aw_rt ?_
  exact en_ret [.slice none 0 0] (by kernel_rfl)
theorem au_43  :
    AC Tryz.prog 45 0 ([.int .u64 1, .int .u64 1]) [] (.tuple #[.int .u64 0, .int .u64 1]) [] := by
  refine ac_in Tryz.func45 (fun w0 W pin => ?_)
  refine aw_p 3 (
    .a 2 1 <| .nil _ _) ?_
  refine aw_p 7 (
    .a 3 1 <| .nil _ _) ?_
  refine aw_p 15 (
    .a 3 1 <| .nil _ _) ?_
  refine aw_p 31 (
    .a 3 1 <| .nil _ _) ?_
  refine aw_p 63 (
    .a 3 1 <| .nil _ _) ?_
  refine aw_p 127 (
    .a 4 1 <| .nil _ _) ?_
  refine aw_p 255 (
    .a 7 1 <| .nil _ _) ?_
  refine aw_w [(0, .int .u64 1), (1, .int .u64 1), (4, .int .u64 0), (5, .int .u64 0), (6, .int .u64 1), (7, .int .u64 0), (9, .int .u64 0), (11, .int .u64 0)] [] ?_
  refine aw_p 511 (
    .a 3 1 <| .nil _ _) ?_
  refine aw_p 1023 (
    .a 3 1 <| .nil _ _) ?_
  refine aw_p 2047 (
    .a 6 1 <| .nil _ _) ?_
  refine aw_p 4095 (
    .a 9 1 <| .nil _ _) ?_
  refine aw_p 8191 (
    .a 4 1 <| .nil _ _) ?_
  refine aw_w [(4, .int .u64 0), (5, .int .u64 1)] [] ?_
  refine aw_rt ?_
  exact en_ret [.int .u64 0, .int .u64 1] (by kernel_rfl)
theorem au_44  :
    AC Tryz.prog 18 0 ([.int .i64 1, .int .i64 1]) [] (.agg #[.int .i64 0, .int .u64 1]) [] := by
  refine ac_in Tryz.func18 (fun w0 W pin => ?_)
  refine aw_p 3 (
    .a 1 1 <| .nil _ _) ?_
  refine aw_p 7 (
    .a 4 2 <| .p (does_c (au_43)) <| .a 5 2 <| .nil _ _) ?_
  refine aw_sq 14 15 ?_
  refine aw_p 29 (
    .a 2 2 <| .nil _ _) ?_
  refine aw_fl 59 ?_
  refine aw_sk ?_
  refine then_normal ?_
  refine aw_sq 30 31 ?_
  refine aw_p 61 (
    .a 2 2 <| .nil _ _) ?_
  refine aw_fl 123 ?_
  refine aw_sk ?_
  refine then_normal ?_
  refine aw_p 63 (
    .a 5 2 <| .nil _ _) ?_
  refine aw_rt ?_
  exact en_ret [.agg #[.int .i64 0, .int .u64 1]] (by kernel_rfl)
theorem au_45  :
    AC Tryz.prog 91 0 ([.int .u64 0, .int .u64 1, .int .u64 2]) [] (.tuple #[.int .u64 0, .int .u64 1]) [] := by
  refine ac_in Tryz.func91 (fun w0 W pin => ?_)
  refine aw_p 3 (
    .a 2 1 <| .nil _ _) ?_
  refine aw_sq 6 7 ?_
  refine aw_p 13 (
    .a 2 1 <| .nil _ _) ?_
  refine aw_fl 27 ?_
  refine aw_sk ?_
  refine then_normal ?_
  refine aw_sq 14 15 ?_
  refine aw_p 29 (
    .a 3 1 <| .nil _ _) ?_
  refine aw_fl 59 ?_
  refine aw_sk ?_
  refine then_normal ?_
  refine aw_sq 30 31 ?_
  refine aw_p 61 (
    .a 2 1 <| .nil _ _) ?_
  refine aw_tr 122 ?_
  refine aw_d 245 (
    .a 8 1 <| .nil _ _) ?_
  refine aw_rt ?_
  refine then_ret ?_
  exact en_ret [.int .u64 0, .int .u64 1] (by kernel_rfl)
theorem au_46  :
    AC Tryz.prog 71 0 ([.agg #[.int .i64 0, .int .u64 1], .int .i64 2]) [] (.tuple #[.agg #[.int .i64 0, .int .u64 0], .int .i64 1, .int .i64 0]) [] := by
  refine ac_in Tryz.func71 (fun w0 W pin => ?_)
  refine aw_p 3 (
    .a 4 1 <| .nil _ _) ?_
  refine aw_sq 6 7 ?_
  refine aw_p 13 (
    .a 2 3 <| .nil _ _) ?_
  refine aw_fl 27 ?_
  refine aw_sk ?_
  refine then_normal ?_
  refine aw_p 15 (
    .a 4 3 <| .nil _ _) ?_
  refine aw_sq 30 31 ?_
  refine aw_p 61 (
    .a 1 3 <| .nil _ _) ?_
  refine aw_fl 123 ?_
  refine aw_sk ?_
  refine then_normal ?_
  refine aw_d 63 (
    .a 14 3 <| .nil _ _) ?_
  refine aw_w [(1, .int .i64 2), (2, .pointer (some ⟨1, 0, none⟩)), (4, .pointer (some ⟨2, 0, none⟩)), (5, .int .i64 0), (6, .int .i64 0), (7, .bool false), (8, .int .u64 0), (9, .int .u64 0)] [(1, ⟨[.int .i64 0, .int .u64 1], 52, true, 2⟩), (2, ⟨[.int .i64 0, .int .u64 0], 52, true, 2⟩)] ?_
  refine aw_p 127 (
    .a 5 3 <| .p (does_c (au_45)) <| .a 5 3 <| .nil _ _) ?_
  refine aw_sq 254 255 ?_
  refine aw_p 509 (
    .a 1 3 <| .nil _ _) ?_
  refine aw_fl 1019 ?_
  refine aw_sk ?_
  refine then_normal ?_
  refine aw_p 511 (
    .a 9 3 <| .nil _ _) ?_
  refine aw_rt ?_
  exact en_ret [.agg #[.int .i64 0, .int .u64 0], .int .i64 1, .int .i64 0] (by kernel_rfl)
theorem au_47  :
    AC Tryz.prog 19 0 ([.int .i64 0]) [] (.agg #[.int .i64 0, .int .u64 0]) [] := by
  refine ac_in Tryz.func19 (fun w0 W pin => ?_)
  refine aw_p 3 (
    .a 1 1 <| .nil _ _) ?_
  refine aw_p 7 (
    .a 6 2 <| .nil _ _) ?_
  refine aw_rt ?_
  exact en_ret [.agg #[.int .i64 0, .int .u64 0]] (by kernel_rfl)
theorem au_48  :
    AC Tryz.prog 72 0 ([.agg #[.int .i64 0, .int .u64 0]]) [] (.tuple #[.int .i64 0, .int .i64 0]) [] := by
  refine ac_in Tryz.func72 (fun w0 W pin => ?_)
  refine aw_p 3 (
    .a 3 1 <| .nil _ _) ?_
  refine aw_sq 6 7 ?_
  refine aw_d 13 (
    .a 4 2 <| .p (does_c (au_47)) <| .p (does_e false ((show (!((0 == 0) && ((0 == 0) && true))) = false from by decide))) <| .nil _ _) ?_
  refine aw_fl 27 ?_
  refine aw_sk ?_
  refine then_normal ?_
  refine aw_p 15 (
    .a 5 2 <| .nil _ _) ?_
  refine aw_rt ?_
  exact en_ret [.int .i64 0, .int .i64 0] (by kernel_rfl)
theorem au_49  :
    AC Tryz.prog 92 0 ([.int .i64 1]) [] (.int .u64 1) [] := by
  refine ac_in Tryz.func92 (fun w0 W pin => ?_)
  refine aw_p 3 (
    .a 1 1 <| .nil _ _) ?_
  refine aw_sq 6 7 ?_
  refine aw_p 13 (
    .a 2 1 <| .nil _ _) ?_
  refine aw_fl 27 ?_
  refine aw_sk ?_
  refine then_normal ?_
  refine aw_p 15 (
    .a 3 1 <| .nil _ _) ?_
  refine aw_rt ?_
  exact en_ret [.int .u64 1] (by kernel_rfl)
theorem au_50  :
    AC Tryz.prog 92 0 ([.int .i64 2]) [] (.int .u64 2) [] := by
  refine ac_in Tryz.func92 (fun w0 W pin => ?_)
  refine aw_p 3 (
    .a 1 1 <| .nil _ _) ?_
  refine aw_sq 6 7 ?_
  refine aw_p 13 (
    .a 2 1 <| .nil _ _) ?_
  refine aw_fl 27 ?_
  refine aw_sk ?_
  refine then_normal ?_
  refine aw_p 15 (
    .a 3 1 <| .nil _ _) ?_
  refine aw_rt ?_
  exact en_ret [.int .u64 2] (by kernel_rfl)
theorem au_51  :
    AC Tryz.prog 93 0 ([.int .u64 1, .int .u64 2]) [] (.int .u64 1) [] := by
  refine ac_in Tryz.func93 (fun w0 W pin => ?_)
  refine aw_p 3 (
    .a 1 1 <| .nil _ _) ?_
  refine aw_sq 6 7 ?_
  refine aw_bl 0 13 ?_
  refine aw_lp 27 ?_
  refine al_round ?_
  refine aw_sq 54 55 ?_
  refine aw_p 109 (
    .a 2 1 <| .nil _ _) ?_
  refine aw_tr 218 ?_
  refine aw_sk ?_
  refine then_normal ?_
  refine aw_bl 1 111 ?_
  refine aw_d1 (
    .a 6 1 <| .nil _ _) ?_
  refine block_normal ?_
  refine then_normal ?_
  refine al_round ?_
  refine aw_sq 54 55 ?_
  refine aw_p 109 (
    .a 2 1 <| .nil _ _) ?_
  refine aw_tr 218 ?_
  refine aw_sk ?_
  refine then_normal ?_
  refine aw_bl 1 111 ?_
  refine aw_d1 (
    .a 6 1 <| .nil _ _) ?_
  refine block_normal ?_
  refine then_normal ?_
  refine al_round ?_
  refine aw_sq 54 55 ?_
  refine aw_p 109 (
    .a 2 1 <| .nil _ _) ?_
  refine aw_fl 219 ?_
  refine aw_ex 0 ?_
  refine then_exit ?_
  refine then_exit ?_
  refine block_exit ?_
  refine then_normal ?_
  refine aw_p 15 (
    .a 2 1 <| .nil _ _) ?_
  refine aw_rt ?_
  exact en_ret [.int .u64 1] (by kernel_rfl)
theorem au_52  :
    AC Tryz.prog 94 0 ([.bool false, .int .u64 1, .int .u64 2]) [] (.tuple #[.agg #[.int .i64 1, .int .i64 2], .int .i64 0]) [] := by
  refine ac_in Tryz.func94 (fun w0 W pin => ?_)
  refine aw_p 3 (
    .a 2 1 <| .nil _ _) ?_
  refine aw_sq 6 7 ?_
  refine aw_p 13 (
    .a 6 2 <| .nil _ _) ?_
  refine aw_fl 27 ?_
  refine aw_sk ?_
  refine then_normal ?_
  refine aw_sq 14 15 ?_
  refine aw_p 29 (
    .a 1 2 <| .nil _ _) ?_
  refine aw_fl 59 ?_
  refine aw_sk ?_
  refine then_normal ?_
  refine aw_p 31 (
    .a 7 2 <| .nil _ _) ?_
  refine aw_rt ?_
  exact en_ret [.agg #[.int .i64 1, .int .i64 2], .int .i64 0] (by kernel_rfl)
theorem au_53  :
    AC Tryz.prog 73 0 ([.int .i64 1, .int .i64 2]) [] (.tuple #[.agg #[.int .i64 1, .int .i64 2], .int .i64 0]) [] := by
  refine ac_in Tryz.func73 (fun w0 W pin => ?_)
  refine aw_p 3 (
    .a 2 1 <| .nil _ _) ?_
  refine aw_sq 6 7 ?_
  refine aw_p 13 (
    .a 2 2 <| .nil _ _) ?_
  refine aw_fl 27 ?_
  refine aw_sk ?_
  refine then_normal ?_
  refine aw_p 15 (
    .a 1 2 <| .p (does_c (au_49)) <| .a 1 2 <| .p (does_c (au_50)) <| .a 2 2 <| .nil _ _) ?_
  refine aw_p 31 (
    .a 2 2 <| .p (does_c (au_51)) <| .a 1 2 <| .nil _ _) ?_
  refine aw_d 63 (
    .a 15 2 <| .p (does_c (au_52)) <| .a 4 2 <| .nil _ _) ?_
  refine aw_w [(4, .pointer (some ⟨1, 0, none⟩)), (5, .int .i64 0)] [(1, ⟨[.int .i64 1, .int .i64 2], 45, true, 2⟩)] ?_
  refine aw_rt ?_
  exact en_ret [.agg #[.int .i64 1, .int .i64 2], .int .i64 0] (by kernel_rfl)
theorem au_54  :
    AC Tryz.prog 70 0 ([.int .i64 0]) [] (.agg #[.int .i64 0, .int .i64 1]) [] := by
  refine ac_in Tryz.func70 (fun w0 W pin => ?_)
  refine aw_p 3 (
    .a 1 1 <| .nil _ _) ?_
  refine aw_p 7 (
    .a 4 2 <| .nil _ _) ?_
  refine aw_rt ?_
  exact en_ret [.agg #[.int .i64 0, .int .i64 1]] (by kernel_rfl)
theorem au_55  :
    AC Tryz.prog 92 0 ([.int .i64 0]) [] (.int .u64 0) [] := by
  refine ac_in Tryz.func92 (fun w0 W pin => ?_)
  refine aw_p 3 (
    .a 1 1 <| .nil _ _) ?_
  refine aw_sq 6 7 ?_
  refine aw_p 13 (
    .a 2 1 <| .nil _ _) ?_
  refine aw_fl 27 ?_
  refine aw_sk ?_
  refine then_normal ?_
  refine aw_p 15 (
    .a 3 1 <| .nil _ _) ?_
  refine aw_rt ?_
  exact en_ret [.int .u64 0] (by kernel_rfl)
theorem au_56  :
    AC Tryz.prog 93 0 ([.int .u64 0, .int .u64 1]) [] (.int .u64 1) [] := by
  refine ac_in Tryz.func93 (fun w0 W pin => ?_)
  refine aw_p 3 (
    .a 1 1 <| .nil _ _) ?_
  refine aw_sq 6 7 ?_
  refine aw_bl 0 13 ?_
  refine aw_lp 27 ?_
  refine al_round ?_
  refine aw_sq 54 55 ?_
  refine aw_p 109 (
    .a 2 1 <| .nil _ _) ?_
  refine aw_tr 218 ?_
  refine aw_sk ?_
  refine then_normal ?_
  refine aw_bl 1 111 ?_
  refine aw_d1 (
    .a 6 1 <| .nil _ _) ?_
  refine block_normal ?_
  refine then_normal ?_
  refine al_round ?_
  refine aw_sq 54 55 ?_
  refine aw_p 109 (
    .a 2 1 <| .nil _ _) ?_
  refine aw_fl 219 ?_
  refine aw_ex 0 ?_
  refine then_exit ?_
  refine then_exit ?_
  refine block_exit ?_
  refine then_normal ?_
  refine aw_p 15 (
    .a 2 1 <| .nil _ _) ?_
  refine aw_rt ?_
  exact en_ret [.int .u64 1] (by kernel_rfl)
theorem au_57  :
    AC Tryz.prog 117 0 ([.agg #[.int .i64 0, .int .i64 1]]) [] (.bool true) [] := by
  refine ac_in Tryz.func117 (fun w0 W pin => ?_)
  refine aw_p 3 (
    .a 2 1 <| .nil _ _) ?_
  refine aw_d 7 (
    .a 11 2 <| .p (does_c (au_55)) <| .a 2 2 <| .p (does_c (au_49)) <| .p (does_c (au_56)) <| .a 3 2 <| .nil _ _) ?_
  refine aw_rt ?_
  exact en_ret [.bool true] (by kernel_rfl)
theorem au_58  :
    AC Tryz.prog 95 0 ([.agg #[.int .i64 0, .int .i64 1]]) [] (.agg #[.int .i64 0, .int .i64 1]) [] := by
  refine ac_in Tryz.func95 (fun w0 W pin => ?_)
  refine aw_p 3 (
    .a 2 1 <| .nil _ _) ?_
  refine aw_sq 6 7 ?_
  refine aw_p 13 (
    .a 1 3 <| .p (does_c (au_57)) <| .a 1 3 <| .nil _ _) ?_
  refine aw_fl 27 ?_
  refine aw_sk ?_
  refine then_normal ?_
  refine aw_p 15 (
    .a 2 3 <| .nil _ _) ?_
  refine aw_rt ?_
  exact en_ret [.agg #[.int .i64 0, .int .i64 1]] (by kernel_rfl)
theorem au_59  :
    AC Tryz.prog 117 0 ([.agg #[.int .i64 1, .int .i64 2]]) [] (.bool true) [] := by
  refine ac_in Tryz.func117 (fun w0 W pin => ?_)
  refine aw_p 3 (
    .a 2 1 <| .nil _ _) ?_
  refine aw_d 7 (
    .a 11 2 <| .p (does_c (au_49)) <| .a 2 2 <| .p (does_c (au_50)) <| .p (does_c (au_51)) <| .a 3 2 <| .nil _ _) ?_
  refine aw_rt ?_
  exact en_ret [.bool true] (by kernel_rfl)
theorem au_60  :
    AC Tryz.prog 95 0 ([.agg #[.int .i64 1, .int .i64 2]]) [] (.agg #[.int .i64 1, .int .i64 2]) [] := by
  refine ac_in Tryz.func95 (fun w0 W pin => ?_)
  refine aw_p 3 (
    .a 2 1 <| .nil _ _) ?_
  refine aw_sq 6 7 ?_
  refine aw_p 13 (
    .a 1 3 <| .p (does_c (au_59)) <| .a 1 3 <| .nil _ _) ?_
  refine aw_fl 27 ?_
  refine aw_sk ?_
  refine then_normal ?_
  refine aw_p 15 (
    .a 2 3 <| .nil _ _) ?_
  refine aw_rt ?_
  exact en_ret [.agg #[.int .i64 1, .int .i64 2]] (by kernel_rfl)
theorem au_61  :
    AC Tryz.prog 45 0 ([.int .u64 0, .int .u64 2]) [] (.tuple #[.int .u64 0, .int .u64 0]) [] := by
  refine ac_in Tryz.func45 (fun w0 W pin => ?_)
  refine aw_p 3 (
    .a 2 1 <| .nil _ _) ?_
  refine aw_p 7 (
    .a 3 1 <| .nil _ _) ?_
  refine aw_p 15 (
    .a 3 1 <| .nil _ _) ?_
  refine aw_p 31 (
    .a 3 1 <| .nil _ _) ?_
  refine aw_p 63 (
    .a 3 1 <| .nil _ _) ?_
  refine aw_p 127 (
    .a 4 1 <| .nil _ _) ?_
  refine aw_p 255 (
    .a 7 1 <| .nil _ _) ?_
  refine aw_w [(0, .int .u64 0), (1, .int .u64 2), (4, .int .u64 0), (5, .int .u64 0), (6, .int .u64 0), (7, .int .u64 0), (9, .int .u64 0), (11, .int .u64 0)] [] ?_
  refine aw_p 511 (
    .a 3 1 <| .nil _ _) ?_
  refine aw_p 1023 (
    .a 3 1 <| .nil _ _) ?_
  refine aw_p 2047 (
    .a 6 1 <| .nil _ _) ?_
  refine aw_p 4095 (
    .a 9 1 <| .nil _ _) ?_
  refine aw_p 8191 (
    .a 4 1 <| .nil _ _) ?_
  refine aw_w [(4, .int .u64 0), (5, .int .u64 0)] [] ?_
  refine aw_rt ?_
  exact en_ret [.int .u64 0, .int .u64 0] (by kernel_rfl)
theorem au_62  :
    AC Tryz.prog 18 0 ([.int .i64 0, .int .i64 2]) [] (.agg #[.int .i64 0, .int .u64 0]) [] := by
  refine ac_in Tryz.func18 (fun w0 W pin => ?_)
  refine aw_p 3 (
    .a 1 1 <| .nil _ _) ?_
  refine aw_p 7 (
    .a 4 2 <| .p (does_c (au_61)) <| .a 5 2 <| .nil _ _) ?_
  refine aw_sq 14 15 ?_
  refine aw_p 29 (
    .a 2 2 <| .nil _ _) ?_
  refine aw_fl 59 ?_
  refine aw_sk ?_
  refine then_normal ?_
  refine aw_sq 30 31 ?_
  refine aw_p 61 (
    .a 2 2 <| .nil _ _) ?_
  refine aw_fl 123 ?_
  refine aw_sk ?_
  refine then_normal ?_
  refine aw_p 63 (
    .a 5 2 <| .nil _ _) ?_
  refine aw_rt ?_
  exact en_ret [.agg #[.int .i64 0, .int .u64 0]] (by kernel_rfl)
theorem au_63  :
    AC Tryz.prog 96 0 ([.agg #[.int .i64 0, .int .u64 0], .agg #[.int .i64 0, .int .u64 1]]) [] (.agg #[.int .i64 0, .int .u64 1]) [] := by
  refine ac_in Tryz.func96 (fun w0 W pin => ?_)
  refine aw_p 3 (
    .a 3 1 <| .nil _ _) ?_
  refine aw_p 7 (
    .a 4 4 <| .p (does_val (v' := .tuple #[.int .u64 1, .int .u64 0]) (does_x (run_add64 Tryz.func118 (by kernel_rfl) (by kernel_rfl) (by kernel_rfl) (by kernel_rfl) 0 1 0 (by omega) (by omega) (by omega) (by omega))) (by kernel_rfl)) <| .a 5 4 <| .nil _ _) ?_
  refine aw_p 15 (
    .a 7 4 <| .p (does_val (v' := .tuple #[.int .u64 0, .int .u64 0]) (does_x (run_add64 Tryz.func118 (by kernel_rfl) (by kernel_rfl) (by kernel_rfl) (by kernel_rfl) 0 0 0 (by omega) (by omega) (by omega) (by omega))) (by kernel_rfl)) <| .a 5 4 <| .nil _ _) ?_
  refine aw_w [(4, .pointer (some ⟨3, 0, none⟩)), (5, .int .u64 1), (7, .int .u64 0)] [(3, ⟨[.int .i64 0, .int .u64 0], 52, true, 2⟩)] ?_
  refine aw_p 31 (
    .a 5 4 <| .nil _ _) ?_
  refine aw_rt ?_
  exact en_ret [.agg #[.int .i64 0, .int .u64 1]] (by kernel_rfl)
theorem au_64  :
    AC Tryz.prog 91 0 ([.int .u64 0, .int .u64 1, .int .u64 1]) [] (.tuple #[.int .u64 1, .int .u64 0]) [] := by
  refine ac_in Tryz.func91 (fun w0 W pin => ?_)
  refine aw_p 3 (
    .a 2 1 <| .nil _ _) ?_
  refine aw_sq 6 7 ?_
  refine aw_p 13 (
    .a 2 1 <| .nil _ _) ?_
  refine aw_fl 27 ?_
  refine aw_sk ?_
  refine then_normal ?_
  refine aw_sq 14 15 ?_
  refine aw_p 29 (
    .a 3 1 <| .nil _ _) ?_
  refine aw_fl 59 ?_
  refine aw_sk ?_
  refine then_normal ?_
  refine aw_sq 30 31 ?_
  refine aw_p 61 (
    .a 2 1 <| .nil _ _) ?_
  refine aw_tr 122 ?_
  refine aw_d 245 (
    .a 8 1 <| .nil _ _) ?_
  refine aw_rt ?_
  refine then_ret ?_
  exact en_ret [.int .u64 1, .int .u64 0] (by kernel_rfl)
theorem au_65  :
    AC Tryz.prog 71 0 ([.agg #[.int .i64 0, .int .u64 1], .int .i64 1]) [] (.tuple #[.agg #[.int .i64 0, .int .u64 1], .int .i64 0, .int .i64 0]) [] := by
  refine ac_in Tryz.func71 (fun w0 W pin => ?_)
  refine aw_p 3 (
    .a 4 1 <| .nil _ _) ?_
  refine aw_sq 6 7 ?_
  refine aw_p 13 (
    .a 2 3 <| .nil _ _) ?_
  refine aw_fl 27 ?_
  refine aw_sk ?_
  refine then_normal ?_
  refine aw_p 15 (
    .a 4 3 <| .nil _ _) ?_
  refine aw_sq 30 31 ?_
  refine aw_p 61 (
    .a 1 3 <| .nil _ _) ?_
  refine aw_fl 123 ?_
  refine aw_sk ?_
  refine then_normal ?_
  refine aw_d 63 (
    .a 14 3 <| .nil _ _) ?_
  refine aw_w [(1, .int .i64 1), (2, .pointer (some ⟨1, 0, none⟩)), (4, .pointer (some ⟨2, 0, none⟩)), (5, .int .i64 0), (6, .int .i64 0), (7, .bool false), (8, .int .u64 0), (9, .int .u64 0)] [(1, ⟨[.int .i64 0, .int .u64 1], 52, true, 2⟩), (2, ⟨[.int .i64 0, .int .u64 0], 52, true, 2⟩)] ?_
  refine aw_p 127 (
    .a 5 3 <| .p (does_c (au_64)) <| .a 5 3 <| .nil _ _) ?_
  refine aw_sq 254 255 ?_
  refine aw_p 509 (
    .a 1 3 <| .nil _ _) ?_
  refine aw_fl 1019 ?_
  refine aw_sk ?_
  refine then_normal ?_
  refine aw_p 511 (
    .a 9 3 <| .nil _ _) ?_
  refine aw_rt ?_
  exact en_ret [.agg #[.int .i64 0, .int .u64 1], .int .i64 0, .int .i64 0] (by kernel_rfl)
theorem au_66  :
    AC Tryz.prog 97 0 ([.agg #[.int .i64 0, .int .u64 1], .int .i64 1]) [] (.tuple #[.agg #[.int .i64 0, .int .u64 1], .int .i64 0, .int .i64 0]) [] := by
  refine ac_in Tryz.func97 (fun w0 W pin => ?_)
  refine aw_p 3 (
    .a 4 1 <| .nil _ _) ?_
  refine aw_p 7 (
    .a 2 3 <| .p (does_c (au_65)) <| .a 6 3 <| .nil _ _) ?_
  refine aw_rt ?_
  exact en_ret [.agg #[.int .i64 0, .int .u64 1], .int .i64 0, .int .i64 0] (by kernel_rfl)
theorem au_67  :
    AC Tryz.prog 19 0 ([.int .i64 1]) [] (.agg #[.int .i64 0, .int .u64 1]) [] := by
  refine ac_in Tryz.func19 (fun w0 W pin => ?_)
  refine aw_p 3 (
    .a 1 1 <| .nil _ _) ?_
  refine aw_p 7 (
    .a 6 2 <| .nil _ _) ?_
  refine aw_rt ?_
  exact en_ret [.agg #[.int .i64 0, .int .u64 1]] (by kernel_rfl)
theorem au_68  :
    AC Tryz.prog 72 0 ([.agg #[.int .i64 0, .int .u64 1]]) [] (.tuple #[.int .i64 1, .int .i64 0]) [] := by
  refine ac_in Tryz.func72 (fun w0 W pin => ?_)
  refine aw_p 3 (
    .a 3 1 <| .nil _ _) ?_
  refine aw_sq 6 7 ?_
  refine aw_d 13 (
    .a 4 2 <| .p (does_c (au_67)) <| .p (does_e false ((show (!((0 == 0) && ((1 == 1) && true))) = false from by decide))) <| .nil _ _) ?_
  refine aw_fl 27 ?_
  refine aw_sk ?_
  refine then_normal ?_
  refine aw_p 15 (
    .a 5 2 <| .nil _ _) ?_
  refine aw_rt ?_
  exact en_ret [.int .i64 1, .int .i64 0] (by kernel_rfl)
theorem au_69  :
    AC Tryz.prog 45 0 ([.int .u64 1, .int .u64 2]) [] (.tuple #[.int .u64 0, .int .u64 2]) [] := by
  refine ac_in Tryz.func45 (fun w0 W pin => ?_)
  refine aw_p 3 (
    .a 2 1 <| .nil _ _) ?_
  refine aw_p 7 (
    .a 3 1 <| .nil _ _) ?_
  refine aw_p 15 (
    .a 3 1 <| .nil _ _) ?_
  refine aw_p 31 (
    .a 3 1 <| .nil _ _) ?_
  refine aw_p 63 (
    .a 3 1 <| .nil _ _) ?_
  refine aw_p 127 (
    .a 4 1 <| .nil _ _) ?_
  refine aw_p 255 (
    .a 7 1 <| .nil _ _) ?_
  refine aw_w [(0, .int .u64 1), (1, .int .u64 2), (4, .int .u64 0), (5, .int .u64 0), (6, .int .u64 1), (7, .int .u64 0), (9, .int .u64 0), (11, .int .u64 0)] [] ?_
  refine aw_p 511 (
    .a 3 1 <| .nil _ _) ?_
  refine aw_p 1023 (
    .a 3 1 <| .nil _ _) ?_
  refine aw_p 2047 (
    .a 6 1 <| .nil _ _) ?_
  refine aw_p 4095 (
    .a 9 1 <| .nil _ _) ?_
  refine aw_p 8191 (
    .a 4 1 <| .nil _ _) ?_
  refine aw_w [(4, .int .u64 0), (5, .int .u64 2)] [] ?_
  refine aw_rt ?_
  exact en_ret [.int .u64 0, .int .u64 2] (by kernel_rfl)
theorem au_70  :
    AC Tryz.prog 18 0 ([.int .i64 1, .int .i64 2]) [] (.agg #[.int .i64 0, .int .u64 2]) [] := by
  refine ac_in Tryz.func18 (fun w0 W pin => ?_)
  refine aw_p 3 (
    .a 1 1 <| .nil _ _) ?_
  refine aw_p 7 (
    .a 4 2 <| .p (does_c (au_69)) <| .a 5 2 <| .nil _ _) ?_
  refine aw_sq 14 15 ?_
  refine aw_p 29 (
    .a 2 2 <| .nil _ _) ?_
  refine aw_fl 59 ?_
  refine aw_sk ?_
  refine then_normal ?_
  refine aw_sq 30 31 ?_
  refine aw_p 61 (
    .a 2 2 <| .nil _ _) ?_
  refine aw_fl 123 ?_
  refine aw_sk ?_
  refine then_normal ?_
  refine aw_p 63 (
    .a 5 2 <| .nil _ _) ?_
  refine aw_rt ?_
  exact en_ret [.agg #[.int .i64 0, .int .u64 2]] (by kernel_rfl)
theorem au_71  :
    AC Tryz.prog 19 0 ([.int .i64 2]) [] (.agg #[.int .i64 0, .int .u64 2]) [] := by
  refine ac_in Tryz.func19 (fun w0 W pin => ?_)
  refine aw_p 3 (
    .a 1 1 <| .nil _ _) ?_
  refine aw_p 7 (
    .a 6 2 <| .nil _ _) ?_
  refine aw_rt ?_
  exact en_ret [.agg #[.int .i64 0, .int .u64 2]] (by kernel_rfl)
theorem au_72  :
    AC Tryz.prog 72 0 ([.agg #[.int .i64 0, .int .u64 2]]) [] (.tuple #[.int .i64 2, .int .i64 0]) [] := by
  refine ac_in Tryz.func72 (fun w0 W pin => ?_)
  refine aw_p 3 (
    .a 3 1 <| .nil _ _) ?_
  refine aw_sq 6 7 ?_
  refine aw_d 13 (
    .a 4 2 <| .p (does_c (au_71)) <| .p (does_e false ((show (!((0 == 0) && ((2 == 2) && true))) = false from by decide))) <| .nil _ _) ?_
  refine aw_fl 27 ?_
  refine aw_sk ?_
  refine then_normal ?_
  refine aw_p 15 (
    .a 5 2 <| .nil _ _) ?_
  refine aw_rt ?_
  exact en_ret [.int .i64 2, .int .i64 0] (by kernel_rfl)
theorem au_73  :
    AC Tryz.prog 74 0 ([.agg #[.int .i64 0, .int .i64 1], .agg #[.int .i64 1, .int .i64 2]]) [] (.tuple #[.agg #[.int .i64 1, .int .i64 2], .int .i64 0]) [] := by
  refine ac_in Tryz.func74 (fun w0 W pin => ?_)
  refine aw_p 3 (
    .a 4 1 <| .nil _ _) ?_
  refine aw_d 7 (
    .a 1 4 <| .p (does_c (au_58)) <| .a 1 4 <| .p (does_c (au_60)) <| .a 2 4 <| .nil _ _) ?_
  refine aw_d 15 (
    .a 2 4 <| .p (does_c (au_49)) <| .a 2 4 <| .p (does_c (au_50)) <| .p (does_c (au_51)) <| .a 2 4 <| .nil _ _) ?_
  refine aw_d 31 (
    .a 6 4 <| .p (does_c (au_62)) <| .a 6 4 <| .p (does_c (au_44)) <| .p (does_c (au_63)) <| .a 2 4 <| .nil _ _) ?_
  refine aw_w [(2, .pointer (some ⟨1, 0, none⟩)), (3, .pointer (some ⟨2, 0, none⟩)), (4, .pointer (some ⟨3, 0, none⟩)), (5, .int .i64 0), (6, .int .i64 1), (7, .pointer (some ⟨4, 0, none⟩))] [(1, ⟨[.int .i64 0, .int .i64 1], 45, true, 2⟩), (2, ⟨[.int .i64 1, .int .i64 2], 45, true, 2⟩), (3, ⟨[.int .i64 0, .int .i64 0], 45, true, 2⟩), (4, ⟨[.int .i64 0, .int .u64 1], 52, true, 2⟩)] ?_
  refine aw_p 63 (
    .a 2 5 <| .p (does_c (au_65)) <| .a 8 5 <| .nil _ _) ?_
  refine aw_p 127 (
    .a 1 6 <| .p (does_c (au_55)) <| .a 1 6 <| .p (does_c (au_49)) <| .p (does_c (au_56)) <| .a 2 6 <| .nil _ _) ?_
  refine aw_p 255 (
    .a 2 6 <| .p (does_c (au_66)) <| .a 8 6 <| .nil _ _) ?_
  refine aw_w [(2, .pointer (some ⟨1, 0, none⟩)), (3, .pointer (some ⟨2, 0, none⟩)), (4, .pointer (some ⟨3, 0, none⟩)), (5, .int .i64 0), (6, .int .i64 1), (9, .int .i64 0), (11, .int .i64 1), (12, .pointer (some ⟨6, 0, none⟩))] [(1, ⟨[.int .i64 0, .int .i64 1], 45, true, 2⟩), (2, ⟨[.int .i64 1, .int .i64 2], 45, true, 2⟩), (3, ⟨[.int .i64 0, .int .i64 0], 45, true, 2⟩), (6, ⟨[.int .i64 0, .int .u64 1], 52, true, 2⟩)] ?_
  refine aw_p 511 (
    .a 1 7 <| .p (does_c (au_68)) <| .a 5 7 <| .nil _ _) ?_
  refine aw_d 1023 (
    .a 8 7 <| .p (does_c (au_70)) <| .p (does_c (au_72)) <| .a 5 7 <| .nil _ _) ?_
  refine aw_sq 2046 2047 ?_
  refine aw_p 4093 (
    .a 14 7 <| .nil _ _) ?_
  refine aw_w [(4, .pointer (some ⟨3, 0, none⟩)), (5, .int .i64 0), (14, .int .i64 1), (16, .int .i64 2), (96, .bool false)] [(3, ⟨[.int .i64 0, .int .i64 0], 45, true, 2⟩)] ?_
  refine aw_fl 8187 ?_
  refine aw_sk ?_
  refine then_normal ?_
  refine aw_p 4095 (
    .a 5 4 <| .nil _ _) ?_
  refine aw_rt ?_
  exact en_ret [.agg #[.int .i64 1, .int .i64 2], .int .i64 0] (by kernel_rfl)
theorem au_74  :
    AC Tryz.prog 44 0 ([.int .i64 0, .int .i64 1, .int .i64 1, .int .i64 2]) [] (.agg #[.int .i64 1, .int .i64 2]) [] := by
  refine ac_in Tryz.func44 (fun w0 W pin => ?_)
  refine aw_p 3 (
    .a 1 1 <| .nil _ _) ?_
  refine aw_p 7 (
    .a 2 2 <| .p (does_c (au_44)) <| .a 1 2 <| .p (does_c (au_46)) <| .a 8 2 <| .nil _ _) ?_
  refine aw_p 15 (
    .a 1 3 <| .p (does_c (au_48)) <| .a 5 3 <| .nil _ _) ?_
  refine aw_p 31 (
    .a 2 3 <| .p (does_c (au_53)) <| .a 6 3 <| .nil _ _) ?_
  refine aw_w [(0, .int .i64 0), (8, .pointer (some ⟨1, 0, none⟩)), (12, .int .i64 0), (14, .pointer (some ⟨3, 0, none⟩))] [(1, ⟨[.int .i64 0, .int .i64 0], 45, true, 2⟩), (3, ⟨[.int .i64 1, .int .i64 2], 45, true, 2⟩)] ?_
  refine aw_d 63 (
    .a 3 4 <| .p (does_c (au_54)) <| .a 1 4 <| .p (does_c (au_73)) <| .a 6 4 <| .nil _ _) ?_
  refine aw_p 127 (
    .a 2 5 <| .nil _ _) ?_
  refine aw_rt ?_
  exact en_ret [.agg #[.int .i64 1, .int .i64 2]] (by kernel_rfl)
theorem au_75  :
    AC Tryz.prog 17 0 ([.agg #[.int .i64 0, .int .i64 0], .agg #[.int .i64 1, .int .i64 1], .agg #[.int .i64 0, .int .i64 1], .agg #[.int .i64 1, .int .i64 0]]) [] (.tuple #[.agg #[.int .i64 1, .int .i64 2, .int .i64 1, .int .i64 2], .int .i64 0]) [] := by
  refine ac_in Tryz.func17 (fun w0 W pin => ?_)
  refine aw_p 3 (
    .a 6 1 <| .nil _ _) ?_
  refine aw_d 7 (
    .a 1 6 <| .p (does_c (au_9)) <| .a 1 6 <| .p (does_c (au_11)) <| .a 1 6 <| .p (does_c (au_12)) <| .a 1 6 <| .p (does_c (au_13)) <| .a 4 6 <| .nil _ _) ?_
  refine aw_sq 14 15 ?_
  refine aw_p 29 (
    .a 4 6 <| .p (does_c (au_33)) <| .nil _ _) ?_
  refine aw_bl 0 59 ?_
  refine aw_p 119 (
    .a 2 6 <| .nil _ _) ?_
  refine aw_w [(4, .pointer (some ⟨1, 0, none⟩)), (5, .pointer (some ⟨2, 0, none⟩)), (6, .pointer (some ⟨3, 0, none⟩)), (7, .pointer (some ⟨4, 0, none⟩)), (8, .pointer (some ⟨5, 0, none⟩)), (9, .int .i64 0), (25, .int .i64 1), (26, .bool false)] [(1, ⟨[.int .i64 0, .int .i64 0], 28, true, 2⟩), (2, ⟨[.int .i64 1, .int .i64 1], 28, true, 2⟩), (3, ⟨[.int .i64 0, .int .i64 1], 28, true, 2⟩), (4, ⟨[.int .i64 1, .int .i64 0], 28, true, 2⟩), (5, ⟨[.int .i64 0, .int .i64 0, .int .i64 0, .int .i64 0], 47, true, 4⟩)] ?_
  refine aw_fl 239 ?_
  refine aw_p 479 (
    .a 2 6 <| .nil _ _) ?_
  refine aw_fl 959 ?_
  refine aw_sk ?_
  refine block_normal ?_
  refine then_normal ?_
  refine aw_sq 30 31 ?_
  refine aw_p 61 (
    .a 4 6 <| .p (does_c (au_42)) <| .a 1 6 <| .nil _ _) ?_
  refine aw_p 123 (
    .a 3 6 <| .nil _ _) ?_
  refine aw_fl 247 ?_
  refine aw_sk ?_
  refine then_normal ?_
  refine aw_p 63 (
    .a 3 6 <| .p (does_c (au_28)) <| .a 1 6 <| .nil _ _) ?_
  refine aw_p 127 (
    .a 4 6 <| .p (does_c (au_31)) <| .a 2 6 <| .nil _ _) ?_
  refine aw_sq 254 255 ?_
  refine aw_p 509 (
    .a 2 6 <| .nil _ _) ?_
  refine aw_w [(4, .pointer (some ⟨1, 0, none⟩)), (5, .pointer (some ⟨2, 0, none⟩)), (8, .pointer (some ⟨5, 0, none⟩)), (9, .int .i64 0), (11, .int .i64 (-1)), (12, .int .i64 (-2)), (55, .bool true)] [(1, ⟨[.int .i64 0, .int .i64 0], 28, true, 2⟩), (2, ⟨[.int .i64 1, .int .i64 1], 28, true, 2⟩), (5, ⟨[.int .i64 0, .int .i64 0, .int .i64 0, .int .i64 0], 47, true, 4⟩)] ?_
  refine aw_tr 1018 ?_
  refine aw_p1 (
    .a 6 6 <| .nil _ _) ?_
  refine then_normal ?_
  refine aw_d 511 (
    .a 9 6 <| .p (does_c (au_74)) <| .a 9 6 <| .p (does_c (au_74)) <| .a 3 6 <| .nil _ _) ?_
  refine aw_w [(8, .pointer (some ⟨5, 0, none⟩)), (9, .int .i64 0)] [(5, ⟨[.int .i64 1, .int .i64 2, .int .i64 1, .int .i64 2], 47, true, 4⟩)] ?_
  refine aw_rt ?_
  exact en_ret [.agg #[.int .i64 1, .int .i64 2, .int .i64 1, .int .i64 2], .int .i64 0] (by kernel_rfl)
theorem au_76  :
    AC Tryz.prog 66 0 ([.int .i64 2, .int .i64 1048576]) [] (.int .i64 2) [] := by
  refine ac_in Tryz.func66 (fun w0 W pin => ?_)
  refine aw_p 3 (
    .a 1 1 <| .nil _ _) ?_
  refine aw_p 7 (
    .a 7 1 <| .nil _ _) ?_
  refine aw_rt ?_
  exact en_ret [.int .i64 2] (by kernel_rfl)
theorem au_77  :
    AC Tryz.prog 37 0 ([.agg #[.int .i64 2, .int .i64 0]]) [] (.agg #[.int .i64 2, .int .i64 0]) [] := by
  refine ac_in Tryz.func37 (fun w0 W pin => ?_)
  refine aw_p 3 (
    .a 2 1 <| .nil _ _) ?_
  refine aw_d 7 (
    .a 2 3 <| .p (does_c (au_76)) <| .a 2 3 <| .p (does_c (au_8)) <| .a 2 3 <| .nil _ _) ?_
  refine aw_rt ?_
  exact en_ret [.agg #[.int .i64 2, .int .i64 0]] (by kernel_rfl)
theorem au_78  :
    AC Tryz.prog 67 0 ([.agg #[.int .i64 0, .int .i64 0], .agg #[.int .i64 2, .int .i64 0]]) [] (.agg #[.int .i64 2, .int .i64 0]) [] := by
  refine ac_in Tryz.func67 (fun w0 W pin => ?_)
  refine aw_p 3 (
    .a 3 1 <| .nil _ _) ?_
  refine aw_d 7 (
    .a 1 4 <| .p (does_c (au_9)) <| .a 1 4 <| .p (does_c (au_77)) <| .a 2 4 <| .nil _ _) ?_
  refine aw_p 15 (
    .a 12 4 <| .nil _ _) ?_
  refine aw_rt ?_
  exact en_ret [.agg #[.int .i64 2, .int .i64 0]] (by kernel_rfl)
theorem au_79  :
    AC Tryz.prog 37 0 ([.agg #[.int .i64 2, .int .i64 2]]) [] (.agg #[.int .i64 2, .int .i64 2]) [] := by
  refine ac_in Tryz.func37 (fun w0 W pin => ?_)
  refine aw_p 3 (
    .a 2 1 <| .nil _ _) ?_
  refine aw_d 7 (
    .a 2 3 <| .p (does_c (au_76)) <| .a 2 3 <| .p (does_c (au_76)) <| .a 2 3 <| .nil _ _) ?_
  refine aw_rt ?_
  exact en_ret [.agg #[.int .i64 2, .int .i64 2]] (by kernel_rfl)
theorem au_80  :
    AC Tryz.prog 67 0 ([.agg #[.int .i64 0, .int .i64 0], .agg #[.int .i64 2, .int .i64 2]]) [] (.agg #[.int .i64 2, .int .i64 2]) [] := by
  refine ac_in Tryz.func67 (fun w0 W pin => ?_)
  refine aw_p 3 (
    .a 3 1 <| .nil _ _) ?_
  refine aw_d 7 (
    .a 1 4 <| .p (does_c (au_9)) <| .a 1 4 <| .p (does_c (au_79)) <| .a 2 4 <| .nil _ _) ?_
  refine aw_p 15 (
    .a 12 4 <| .nil _ _) ?_
  refine aw_rt ?_
  exact en_ret [.agg #[.int .i64 2, .int .i64 2]] (by kernel_rfl)
theorem au_81  :
    AC Tryz.prog 38 0 ([.agg #[.int .i64 0, .int .i64 0], .agg #[.int .i64 2, .int .i64 0], .agg #[.int .i64 2, .int .i64 2]]) [] (.int .i64 4) [] := by
  refine ac_in Tryz.func38 (fun w0 W pin => ?_)
  refine aw_p 3 (
    .a 4 1 <| .nil _ _) ?_
  refine aw_d 7 (
    .a 2 4 <| .p (does_c (au_78)) <| .a 2 4 <| .p (does_c (au_80)) <| .a 4 4 <| .nil _ _) ?_
  refine aw_p 15 (
    .a 12 6 <| .nil _ _) ?_
  refine aw_w [(6, .int .i64 4)] [] ?_
  refine aw_rt ?_
  exact en_ret [.int .i64 4] (by kernel_rfl)
theorem au_82  :
    AC Tryz.prog 37 0 ([.agg #[.int .i64 0, .int .i64 2]]) [] (.agg #[.int .i64 0, .int .i64 2]) [] := by
  refine ac_in Tryz.func37 (fun w0 W pin => ?_)
  refine aw_p 3 (
    .a 2 1 <| .nil _ _) ?_
  refine aw_d 7 (
    .a 2 3 <| .p (does_c (au_8)) <| .a 2 3 <| .p (does_c (au_76)) <| .a 2 3 <| .nil _ _) ?_
  refine aw_rt ?_
  exact en_ret [.agg #[.int .i64 0, .int .i64 2]] (by kernel_rfl)
theorem au_83  :
    AC Tryz.prog 67 0 ([.agg #[.int .i64 0, .int .i64 0], .agg #[.int .i64 0, .int .i64 2]]) [] (.agg #[.int .i64 0, .int .i64 2]) [] := by
  refine ac_in Tryz.func67 (fun w0 W pin => ?_)
  refine aw_p 3 (
    .a 3 1 <| .nil _ _) ?_
  refine aw_d 7 (
    .a 1 4 <| .p (does_c (au_9)) <| .a 1 4 <| .p (does_c (au_82)) <| .a 2 4 <| .nil _ _) ?_
  refine aw_p 15 (
    .a 12 4 <| .nil _ _) ?_
  refine aw_rt ?_
  exact en_ret [.agg #[.int .i64 0, .int .i64 2]] (by kernel_rfl)
theorem au_84  :
    AC Tryz.prog 38 0 ([.agg #[.int .i64 0, .int .i64 0], .agg #[.int .i64 2, .int .i64 2], .agg #[.int .i64 0, .int .i64 2]]) [] (.int .i64 4) [] := by
  refine ac_in Tryz.func38 (fun w0 W pin => ?_)
  refine aw_p 3 (
    .a 4 1 <| .nil _ _) ?_
  refine aw_d 7 (
    .a 2 4 <| .p (does_c (au_80)) <| .a 2 4 <| .p (does_c (au_83)) <| .a 4 4 <| .nil _ _) ?_
  refine aw_p 15 (
    .a 12 6 <| .nil _ _) ?_
  refine aw_w [(6, .int .i64 4)] [] ?_
  refine aw_rt ?_
  exact en_ret [.int .i64 4] (by kernel_rfl)
theorem au_85  :
    AC Tryz.prog 14 1 ([sV 0 4]) [(0, ⟨[.int .i64 0, .int .i64 0, .int .i64 2, .int .i64 0, .int .i64 2, .int .i64 2, .int .i64 0, .int .i64 2], 28, true, 2⟩)] (.int .i64 8) [(0, ⟨[.int .i64 0, .int .i64 0, .int .i64 2, .int .i64 0, .int .i64 2, .int .i64 2, .int .i64 0, .int .i64 2], 28, true, 2⟩)] := by
  refine ac_in Tryz.func14 (fun w0 W pin => ?_)
  refine aw_p 3 (
    .a 1 1 <| .nil _ _) ?_
  refine aw_p 7 (
    .a 1 1 <| .nil _ _) ?_
  refine aw_sq 14 15 ?_
  refine aw_p 29 (
    .a 1 1 <| .nil _ _) ?_
  refine aw_bl 0 59 ?_
  refine aw_lp 119 ?_
  refine al_round ?_
  refine aw_sq 238 239 ?_
  refine aw_p 477 (
    .a 4 1 <| .nil _ _) ?_
  refine aw_tr 954 ?_
  refine aw_sk ?_
  refine then_normal ?_
  refine aw_sq 478 479 ?_
  refine aw_bl 1 957 ?_
  refine aw_d1 (
    .a 13 1 <| .p (does_c (au_81)) <| .a 2 1 <| .nil _ _) ?_
  refine block_normal ?_
  refine then_normal ?_
  refine aw_p1 (
    .a 3 1 <| .nil _ _) ?_
  refine then_normal ?_
  refine al_round ?_
  refine aw_sq 238 239 ?_
  refine aw_p 477 (
    .a 4 1 <| .nil _ _) ?_
  refine aw_w [(0, sV 0 4), (2, .int .i64 0), (3, .int .i64 4), (4, .int .i64 3), (8, .bool true)] [(0, ⟨[.int .i64 0, .int .i64 0, .int .i64 2, .int .i64 0, .int .i64 2, .int .i64 2, .int .i64 0, .int .i64 2], 28, true, 2⟩)] ?_
  refine aw_tr 954 ?_
  refine aw_sk ?_
  refine then_normal ?_
  refine aw_sq 478 479 ?_
  refine aw_bl 1 957 ?_
  refine aw_d1 (
    .a 13 1 <| .p (does_c (au_84)) <| .a 2 1 <| .nil _ _) ?_
  refine block_normal ?_
  refine then_normal ?_
  refine aw_p1 (
    .a 3 1 <| .nil _ _) ?_
  refine then_normal ?_
  refine al_round ?_
  refine aw_sq 238 239 ?_
  refine aw_p 477 (
    .a 4 1 <| .nil _ _) ?_
  refine aw_fl 955 ?_
  refine aw_ex 0 ?_
  refine then_exit ?_
  refine then_exit ?_
  refine block_exit ?_
  refine then_normal ?_
  refine aw_p 31 (
    .a 2 1 <| .nil _ _) ?_
  refine aw_w [(2, .int .i64 8)] [(0, ⟨[.int .i64 0, .int .i64 0, .int .i64 2, .int .i64 0, .int .i64 2, .int .i64 2, .int .i64 0, .int .i64 2], 28, true, 2⟩)] ?_
  refine aw_rt ?_
  exact en_ret [.int .i64 8] (by kernel_rfl)
theorem au_86  :
    AC Tryz.prog 38 0 ([.agg #[.int .i64 0, .int .i64 0], .agg #[.int .i64 2, .int .i64 0], .agg #[.int .i64 1, .int .i64 1]]) [] (.int .i64 2) [] := by
  refine ac_in Tryz.func38 (fun w0 W pin => ?_)
  refine aw_p 3 (
    .a 4 1 <| .nil _ _) ?_
  refine aw_d 7 (
    .a 2 4 <| .p (does_c (au_78)) <| .a 2 4 <| .p (does_c (au_14)) <| .a 4 4 <| .nil _ _) ?_
  refine aw_p 15 (
    .a 12 6 <| .nil _ _) ?_
  refine aw_w [(6, .int .i64 2)] [] ?_
  refine aw_rt ?_
  exact en_ret [.int .i64 2] (by kernel_rfl)
theorem au_87  :
    AC Tryz.prog 88 0 ([.int .i64 2]) [] (.bool false) [] := by
  refine ac_in Tryz.func88 (fun w0 W pin => ?_)
  refine aw_p 3 (
    .a 1 1 <| .nil _ _) ?_
  refine aw_p 7 (
    .a 4 1 <| .nil _ _) ?_
  refine aw_rt ?_
  exact en_ret [.bool false] (by kernel_rfl)
theorem au_88  :
    AC Tryz.prog 58 0 ([.int .i64 2, .int .i64 0]) [] (.int .i64 1) [] := by
  refine ac_in Tryz.func58 (fun w0 W pin => ?_)
  refine aw_p 3 (
    .a 1 1 <| .nil _ _) ?_
  refine aw_p 7 (
    .a 1 1 <| .p (does_c (au_87)) <| .a 1 1 <| .nil _ _) ?_
  refine aw_p 15 (
    .a 1 1 <| .p (does_c (au_18)) <| .a 1 1 <| .nil _ _) ?_
  refine aw_sq 30 31 ?_
  refine aw_p 61 (
    .a 1 1 <| .nil _ _) ?_
  refine aw_fl 123 ?_
  refine aw_sk ?_
  refine then_normal ?_
  refine aw_sq 62 63 ?_
  refine aw_p 125 (
    .a 1 1 <| .nil _ _) ?_
  refine aw_fl 251 ?_
  refine aw_sk ?_
  refine then_normal ?_
  refine aw_sq 126 127 ?_
  refine aw_p 253 (
    .a 3 1 <| .nil _ _) ?_
  refine aw_fl 507 ?_
  refine aw_sk ?_
  refine then_normal ?_
  refine aw_sq 254 255 ?_
  refine aw_p 509 (
    .a 3 1 <| .nil _ _) ?_
  refine aw_tr 1018 ?_
  refine aw_p 2037 (
    .a 1 1 <| .nil _ _) ?_
  refine aw_rt ?_
  refine then_ret ?_
  exact en_ret [.int .i64 1] (by kernel_rfl)
theorem au_89  :
    AC Tryz.prog 40 0 ([.agg #[.int .i64 0, .int .i64 0], .agg #[.int .i64 2, .int .i64 0], .agg #[.int .i64 1, .int .i64 1]]) [] (.int .i64 1) [] := by
  refine ac_in Tryz.func40 (fun w0 W pin => ?_)
  refine aw_p 3 (
    .a 4 1 <| .nil _ _) ?_
  refine aw_p 7 (
    .a 3 4 <| .p (does_c (au_86)) <| .p (does_c (au_88)) <| .a 1 4 <| .nil _ _) ?_
  refine aw_rt ?_
  exact en_ret [.int .i64 1] (by kernel_rfl)
theorem au_90  :
    AC Tryz.prog 39 0 ([.agg #[.int .i64 0, .int .i64 0], .agg #[.int .i64 2, .int .i64 0], .agg #[.int .i64 1, .int .i64 1]]) [] (.bool false) [] := by
  refine ac_in Tryz.func39 (fun w0 W pin => ?_)
  refine aw_p 3 (
    .a 4 1 <| .nil _ _) ?_
  refine aw_p 7 (
    .a 3 4 <| .p (does_c (au_89)) <| .a 9 4 <| .nil _ _) ?_
  refine aw_rt ?_
  exact en_ret [.bool false] (by kernel_rfl)
theorem au_91  :
    AC Tryz.prog 67 0 ([.agg #[.int .i64 2, .int .i64 0], .agg #[.int .i64 2, .int .i64 2]]) [] (.agg #[.int .i64 0, .int .i64 2]) [] := by
  refine ac_in Tryz.func67 (fun w0 W pin => ?_)
  refine aw_p 3 (
    .a 3 1 <| .nil _ _) ?_
  refine aw_d 7 (
    .a 1 4 <| .p (does_c (au_77)) <| .a 1 4 <| .p (does_c (au_79)) <| .a 2 4 <| .nil _ _) ?_
  refine aw_p 15 (
    .a 12 4 <| .nil _ _) ?_
  refine aw_rt ?_
  exact en_ret [.agg #[.int .i64 0, .int .i64 2]] (by kernel_rfl)
theorem au_92  :
    AC Tryz.prog 67 0 ([.agg #[.int .i64 2, .int .i64 0], .agg #[.int .i64 1, .int .i64 1]]) [] (.agg #[.int .i64 (-1), .int .i64 1]) [] := by
  refine ac_in Tryz.func67 (fun w0 W pin => ?_)
  refine aw_p 3 (
    .a 3 1 <| .nil _ _) ?_
  refine aw_d 7 (
    .a 1 4 <| .p (does_c (au_77)) <| .a 1 4 <| .p (does_c (au_11)) <| .a 2 4 <| .nil _ _) ?_
  refine aw_p 15 (
    .a 12 4 <| .nil _ _) ?_
  refine aw_rt ?_
  exact en_ret [.agg #[.int .i64 (-1), .int .i64 1]] (by kernel_rfl)
theorem au_93  :
    AC Tryz.prog 38 0 ([.agg #[.int .i64 2, .int .i64 0], .agg #[.int .i64 2, .int .i64 2], .agg #[.int .i64 1, .int .i64 1]]) [] (.int .i64 2) [] := by
  refine ac_in Tryz.func38 (fun w0 W pin => ?_)
  refine aw_p 3 (
    .a 4 1 <| .nil _ _) ?_
  refine aw_d 7 (
    .a 2 4 <| .p (does_c (au_91)) <| .a 2 4 <| .p (does_c (au_92)) <| .a 4 4 <| .nil _ _) ?_
  refine aw_p 15 (
    .a 12 6 <| .nil _ _) ?_
  refine aw_w [(6, .int .i64 2)] [] ?_
  refine aw_rt ?_
  exact en_ret [.int .i64 2] (by kernel_rfl)
theorem au_94  :
    AC Tryz.prog 40 0 ([.agg #[.int .i64 2, .int .i64 0], .agg #[.int .i64 2, .int .i64 2], .agg #[.int .i64 1, .int .i64 1]]) [] (.int .i64 1) [] := by
  refine ac_in Tryz.func40 (fun w0 W pin => ?_)
  refine aw_p 3 (
    .a 4 1 <| .nil _ _) ?_
  refine aw_p 7 (
    .a 3 4 <| .p (does_c (au_93)) <| .p (does_c (au_88)) <| .a 1 4 <| .nil _ _) ?_
  refine aw_rt ?_
  exact en_ret [.int .i64 1] (by kernel_rfl)
theorem au_95  :
    AC Tryz.prog 39 0 ([.agg #[.int .i64 2, .int .i64 0], .agg #[.int .i64 2, .int .i64 2], .agg #[.int .i64 1, .int .i64 1]]) [] (.bool false) [] := by
  refine ac_in Tryz.func39 (fun w0 W pin => ?_)
  refine aw_p 3 (
    .a 4 1 <| .nil _ _) ?_
  refine aw_p 7 (
    .a 3 4 <| .p (does_c (au_94)) <| .a 9 4 <| .nil _ _) ?_
  refine aw_rt ?_
  exact en_ret [.bool false] (by kernel_rfl)
theorem au_96  :
    AC Tryz.prog 67 0 ([.agg #[.int .i64 2, .int .i64 2], .agg #[.int .i64 0, .int .i64 2]]) [] (.agg #[.int .i64 (-2), .int .i64 0]) [] := by
  refine ac_in Tryz.func67 (fun w0 W pin => ?_)
  refine aw_p 3 (
    .a 3 1 <| .nil _ _) ?_
  refine aw_d 7 (
    .a 1 4 <| .p (does_c (au_79)) <| .a 1 4 <| .p (does_c (au_82)) <| .a 2 4 <| .nil _ _) ?_
  refine aw_p 15 (
    .a 12 4 <| .nil _ _) ?_
  refine aw_rt ?_
  exact en_ret [.agg #[.int .i64 (-2), .int .i64 0]] (by kernel_rfl)
theorem au_97  :
    AC Tryz.prog 67 0 ([.agg #[.int .i64 2, .int .i64 2], .agg #[.int .i64 1, .int .i64 1]]) [] (.agg #[.int .i64 (-1), .int .i64 (-1)]) [] := by
  refine ac_in Tryz.func67 (fun w0 W pin => ?_)
  refine aw_p 3 (
    .a 3 1 <| .nil _ _) ?_
  refine aw_d 7 (
    .a 1 4 <| .p (does_c (au_79)) <| .a 1 4 <| .p (does_c (au_11)) <| .a 2 4 <| .nil _ _) ?_
  refine aw_p 15 (
    .a 12 4 <| .nil _ _) ?_
  refine aw_rt ?_
  exact en_ret [.agg #[.int .i64 (-1), .int .i64 (-1)]] (by kernel_rfl)
theorem au_98  :
    AC Tryz.prog 38 0 ([.agg #[.int .i64 2, .int .i64 2], .agg #[.int .i64 0, .int .i64 2], .agg #[.int .i64 1, .int .i64 1]]) [] (.int .i64 2) [] := by
  refine ac_in Tryz.func38 (fun w0 W pin => ?_)
  refine aw_p 3 (
    .a 4 1 <| .nil _ _) ?_
  refine aw_d 7 (
    .a 2 4 <| .p (does_c (au_96)) <| .a 2 4 <| .p (does_c (au_97)) <| .a 4 4 <| .nil _ _) ?_
  refine aw_p 15 (
    .a 12 6 <| .nil _ _) ?_
  refine aw_w [(6, .int .i64 2)] [] ?_
  refine aw_rt ?_
  exact en_ret [.int .i64 2] (by kernel_rfl)
theorem au_99  :
    AC Tryz.prog 40 0 ([.agg #[.int .i64 2, .int .i64 2], .agg #[.int .i64 0, .int .i64 2], .agg #[.int .i64 1, .int .i64 1]]) [] (.int .i64 1) [] := by
  refine ac_in Tryz.func40 (fun w0 W pin => ?_)
  refine aw_p 3 (
    .a 4 1 <| .nil _ _) ?_
  refine aw_p 7 (
    .a 3 4 <| .p (does_c (au_98)) <| .p (does_c (au_88)) <| .a 1 4 <| .nil _ _) ?_
  refine aw_rt ?_
  exact en_ret [.int .i64 1] (by kernel_rfl)
theorem au_100  :
    AC Tryz.prog 39 0 ([.agg #[.int .i64 2, .int .i64 2], .agg #[.int .i64 0, .int .i64 2], .agg #[.int .i64 1, .int .i64 1]]) [] (.bool false) [] := by
  refine ac_in Tryz.func39 (fun w0 W pin => ?_)
  refine aw_p 3 (
    .a 4 1 <| .nil _ _) ?_
  refine aw_p 7 (
    .a 3 4 <| .p (does_c (au_99)) <| .a 9 4 <| .nil _ _) ?_
  refine aw_rt ?_
  exact en_ret [.bool false] (by kernel_rfl)
theorem au_101  :
    AC Tryz.prog 67 0 ([.agg #[.int .i64 0, .int .i64 2], .agg #[.int .i64 0, .int .i64 0]]) [] (.agg #[.int .i64 0, .int .i64 (-2)]) [] := by
  refine ac_in Tryz.func67 (fun w0 W pin => ?_)
  refine aw_p 3 (
    .a 3 1 <| .nil _ _) ?_
  refine aw_d 7 (
    .a 1 4 <| .p (does_c (au_82)) <| .a 1 4 <| .p (does_c (au_9)) <| .a 2 4 <| .nil _ _) ?_
  refine aw_p 15 (
    .a 12 4 <| .nil _ _) ?_
  refine aw_rt ?_
  exact en_ret [.agg #[.int .i64 0, .int .i64 (-2)]] (by kernel_rfl)
theorem au_102  :
    AC Tryz.prog 67 0 ([.agg #[.int .i64 0, .int .i64 2], .agg #[.int .i64 1, .int .i64 1]]) [] (.agg #[.int .i64 1, .int .i64 (-1)]) [] := by
  refine ac_in Tryz.func67 (fun w0 W pin => ?_)
  refine aw_p 3 (
    .a 3 1 <| .nil _ _) ?_
  refine aw_d 7 (
    .a 1 4 <| .p (does_c (au_82)) <| .a 1 4 <| .p (does_c (au_11)) <| .a 2 4 <| .nil _ _) ?_
  refine aw_p 15 (
    .a 12 4 <| .nil _ _) ?_
  refine aw_rt ?_
  exact en_ret [.agg #[.int .i64 1, .int .i64 (-1)]] (by kernel_rfl)
theorem au_103  :
    AC Tryz.prog 38 0 ([.agg #[.int .i64 0, .int .i64 2], .agg #[.int .i64 0, .int .i64 0], .agg #[.int .i64 1, .int .i64 1]]) [] (.int .i64 2) [] := by
  refine ac_in Tryz.func38 (fun w0 W pin => ?_)
  refine aw_p 3 (
    .a 4 1 <| .nil _ _) ?_
  refine aw_d 7 (
    .a 2 4 <| .p (does_c (au_101)) <| .a 2 4 <| .p (does_c (au_102)) <| .a 4 4 <| .nil _ _) ?_
  refine aw_p 15 (
    .a 12 6 <| .nil _ _) ?_
  refine aw_w [(6, .int .i64 2)] [] ?_
  refine aw_rt ?_
  exact en_ret [.int .i64 2] (by kernel_rfl)
theorem au_104  :
    AC Tryz.prog 40 0 ([.agg #[.int .i64 0, .int .i64 2], .agg #[.int .i64 0, .int .i64 0], .agg #[.int .i64 1, .int .i64 1]]) [] (.int .i64 1) [] := by
  refine ac_in Tryz.func40 (fun w0 W pin => ?_)
  refine aw_p 3 (
    .a 4 1 <| .nil _ _) ?_
  refine aw_p 7 (
    .a 3 4 <| .p (does_c (au_103)) <| .p (does_c (au_88)) <| .a 1 4 <| .nil _ _) ?_
  refine aw_rt ?_
  exact en_ret [.int .i64 1] (by kernel_rfl)
theorem au_105  :
    AC Tryz.prog 39 0 ([.agg #[.int .i64 0, .int .i64 2], .agg #[.int .i64 0, .int .i64 0], .agg #[.int .i64 1, .int .i64 1]]) [] (.bool false) [] := by
  refine ac_in Tryz.func39 (fun w0 W pin => ?_)
  refine aw_p 3 (
    .a 4 1 <| .nil _ _) ?_
  refine aw_p 7 (
    .a 3 4 <| .p (does_c (au_104)) <| .a 9 4 <| .nil _ _) ?_
  refine aw_rt ?_
  exact en_ret [.bool false] (by kernel_rfl)
theorem au_106  :
    AC Tryz.prog 38 0 ([.agg #[.int .i64 0, .int .i64 0], .agg #[.int .i64 0, .int .i64 2], .agg #[.int .i64 1, .int .i64 1]]) [] (.int .i64 (-2)) [] := by
  refine ac_in Tryz.func38 (fun w0 W pin => ?_)
  refine aw_p 3 (
    .a 4 1 <| .nil _ _) ?_
  refine aw_d 7 (
    .a 2 4 <| .p (does_c (au_83)) <| .a 2 4 <| .p (does_c (au_14)) <| .a 4 4 <| .nil _ _) ?_
  refine aw_p 15 (
    .a 12 6 <| .nil _ _) ?_
  refine aw_w [(6, .int .i64 (-2))] [] ?_
  refine aw_rt ?_
  exact en_ret [.int .i64 (-2)] (by kernel_rfl)
theorem au_107  :
    AC Tryz.prog 88 0 ([.int .i64 (-2)]) [] (.bool false) [] := by
  refine ac_in Tryz.func88 (fun w0 W pin => ?_)
  refine aw_p 3 (
    .a 1 1 <| .nil _ _) ?_
  refine aw_p 7 (
    .a 4 1 <| .nil _ _) ?_
  refine aw_rt ?_
  exact en_ret [.bool false] (by kernel_rfl)
theorem au_108  :
    AC Tryz.prog 58 0 ([.int .i64 (-2), .int .i64 0]) [] (.int .i64 (-1)) [] := by
  refine ac_in Tryz.func58 (fun w0 W pin => ?_)
  refine aw_p 3 (
    .a 1 1 <| .nil _ _) ?_
  refine aw_p 7 (
    .a 1 1 <| .p (does_c (au_107)) <| .a 1 1 <| .nil _ _) ?_
  refine aw_p 15 (
    .a 1 1 <| .p (does_c (au_18)) <| .a 1 1 <| .nil _ _) ?_
  refine aw_sq 30 31 ?_
  refine aw_p 61 (
    .a 1 1 <| .nil _ _) ?_
  refine aw_fl 123 ?_
  refine aw_sk ?_
  refine then_normal ?_
  refine aw_sq 62 63 ?_
  refine aw_p 125 (
    .a 1 1 <| .nil _ _) ?_
  refine aw_fl 251 ?_
  refine aw_sk ?_
  refine then_normal ?_
  refine aw_sq 126 127 ?_
  refine aw_p 253 (
    .a 3 1 <| .nil _ _) ?_
  refine aw_tr 506 ?_
  refine aw_p 1013 (
    .a 1 1 <| .nil _ _) ?_
  refine aw_rt ?_
  refine then_ret ?_
  exact en_ret [.int .i64 (-1)] (by kernel_rfl)
theorem au_109  :
    AC Tryz.prog 40 0 ([.agg #[.int .i64 0, .int .i64 0], .agg #[.int .i64 0, .int .i64 2], .agg #[.int .i64 1, .int .i64 1]]) [] (.int .i64 (-1)) [] := by
  refine ac_in Tryz.func40 (fun w0 W pin => ?_)
  refine aw_p 3 (
    .a 4 1 <| .nil _ _) ?_
  refine aw_p 7 (
    .a 3 4 <| .p (does_c (au_106)) <| .p (does_c (au_108)) <| .a 1 4 <| .nil _ _) ?_
  refine aw_rt ?_
  exact en_ret [.int .i64 (-1)] (by kernel_rfl)
theorem au_110  :
    AC Tryz.prog 15 1 ([sV 0 4, .agg #[.int .i64 1, .int .i64 1]]) [(0, ⟨[.int .i64 0, .int .i64 0, .int .i64 2, .int .i64 0, .int .i64 2, .int .i64 2, .int .i64 0, .int .i64 2], 28, true, 2⟩)] (.int .i64 1) [(0, ⟨[.int .i64 0, .int .i64 0, .int .i64 2, .int .i64 0, .int .i64 2, .int .i64 2, .int .i64 0, .int .i64 2], 28, true, 2⟩)] := by
  refine ac_in Tryz.func15 (fun w0 W pin => ?_)
  refine aw_p 3 (
    .a 2 1 <| .nil _ _) ?_
  refine aw_p 7 (
    .a 1 2 <| .p (does_c (au_11)) <| .a 1 2 <| .nil _ _) ?_
  refine aw_p 15 (
    .a 1 2 <| .nil _ _) ?_
  refine aw_sq 30 31 ?_
  refine aw_p 61 (
    .a 3 2 <| .nil _ _) ?_
  refine aw_bl 0 123 ?_
  refine aw_lp 247 ?_
  refine al_round ?_
  refine aw_p 495 (
    .a 1 2 <| .nil _ _) ?_
  refine aw_sq 990 991 ?_
  refine aw_tr 1980 ?_
  refine aw_sk ?_
  refine then_normal ?_
  refine aw_sq 1982 1983 ?_
  refine aw_bl 1 3965 ?_
  refine aw_p 7931 (
    .a 2 2 <| .nil _ _) ?_
  refine aw_d 15863 (
    .a 4 2 <| .p (does_c (au_9)) <| .a 8 2 <| .p (does_c (au_77)) <| .a 4 2 <| .nil _ _) ?_
  refine aw_w [(0, sV 0 4), (3, .pointer (some ⟨1, 0, none⟩)), (4, .int .i64 0), (5, .int .i64 (-1)), (6, .int .i64 0), (7, .pointer (some ⟨2, 0, none⟩)), (8, .pointer (some ⟨3, 0, none⟩)), (12, .int .i64 4), (13, .int .i64 0), (14, .bool true)] [(0, ⟨[.int .i64 0, .int .i64 0, .int .i64 2, .int .i64 0, .int .i64 2, .int .i64 2, .int .i64 0, .int .i64 2], 28, true, 2⟩), (1, ⟨[.int .i64 1, .int .i64 1], 28, true, 2⟩), (2, ⟨[.int .i64 0, .int .i64 0], 28, true, 2⟩), (3, ⟨[.int .i64 2, .int .i64 0], 28, true, 2⟩)] ?_
  refine aw_sq 31726 31727 ?_
  refine aw_p 63453 (
    .a 3 4 <| .p (does_c (au_90)) <| .nil _ _) ?_
  refine aw_fl 126907 ?_
  refine aw_sk ?_
  refine then_normal ?_
  refine aw_sq 63454 63455 ?_
  refine aw_p 126909 (
    .a 5 4 <| .nil _ _) ?_
  refine aw_fl 253819 ?_
  refine aw_sk ?_
  refine then_normal ?_
  refine aw_p 126911 (
    .a 19 4 <| .nil _ _) ?_
  refine aw_w [(0, sV 0 4), (3, .pointer (some ⟨1, 0, none⟩)), (4, .int .i64 0), (5, .int .i64 (-1)), (6, .int .i64 0), (7, .pointer (some ⟨2, 0, none⟩)), (8, .pointer (some ⟨3, 0, none⟩)), (12, .int .i64 4), (13, .int .i64 0), (14, .bool true), (33, .bool false), (38, .bool false), (59, .bool false)] [(0, ⟨[.int .i64 0, .int .i64 0, .int .i64 2, .int .i64 0, .int .i64 2, .int .i64 2, .int .i64 0, .int .i64 2], 28, true, 2⟩), (1, ⟨[.int .i64 1, .int .i64 1], 28, true, 2⟩), (2, ⟨[.int .i64 0, .int .i64 0], 28, true, 2⟩), (3, ⟨[.int .i64 2, .int .i64 0], 28, true, 2⟩)] ?_
  refine aw_fl 253823 ?_
  refine aw_sk ?_
  refine block_normal ?_
  refine then_normal ?_
  refine aw_p1 (
    .a 2 4 <| .nil _ _) ?_
  refine then_normal ?_
  refine al_round ?_
  refine aw_p 495 (
    .a 1 4 <| .nil _ _) ?_
  refine aw_sq 990 991 ?_
  refine aw_tr 1980 ?_
  refine aw_sk ?_
  refine then_normal ?_
  refine aw_sq 1982 1983 ?_
  refine aw_bl 1 3965 ?_
  refine aw_p 7931 (
    .a 2 4 <| .nil _ _) ?_
  refine aw_d 15863 (
    .a 4 4 <| .p (does_c (au_77)) <| .a 8 4 <| .p (does_c (au_79)) <| .a 4 4 <| .nil _ _) ?_
  refine aw_sq 31726 31727 ?_
  refine aw_p 63453 (
    .a 3 6 <| .p (does_c (au_95)) <| .nil _ _) ?_
  refine aw_w [(0, sV 0 4), (3, .pointer (some ⟨1, 0, none⟩)), (4, .int .i64 0), (5, .int .i64 (-1)), (6, .int .i64 1), (7, .pointer (some ⟨4, 0, none⟩)), (8, .pointer (some ⟨5, 0, none⟩)), (12, .int .i64 4), (13, .int .i64 1), (14, .bool true), (33, .bool false), (38, .bool false), (59, .bool false)] [(0, ⟨[.int .i64 0, .int .i64 0, .int .i64 2, .int .i64 0, .int .i64 2, .int .i64 2, .int .i64 0, .int .i64 2], 28, true, 2⟩), (1, ⟨[.int .i64 1, .int .i64 1], 28, true, 2⟩), (4, ⟨[.int .i64 2, .int .i64 0], 28, true, 2⟩), (5, ⟨[.int .i64 2, .int .i64 2], 28, true, 2⟩)] ?_
  refine aw_fl 126907 ?_
  refine aw_sk ?_
  refine then_normal ?_
  refine aw_sq 63454 63455 ?_
  refine aw_p 126909 (
    .a 5 6 <| .nil _ _) ?_
  refine aw_fl 253819 ?_
  refine aw_sk ?_
  refine then_normal ?_
  refine aw_p 126911 (
    .a 16 6 <| .p (does_c (au_94)) <| .a 2 6 <| .nil _ _) ?_
  refine aw_tr 253822 ?_
  refine aw_p1 (
    .a 3 6 <| .nil _ _) ?_
  refine block_normal ?_
  refine then_normal ?_
  refine aw_p1 (
    .a 2 6 <| .nil _ _) ?_
  refine then_normal ?_
  refine al_round ?_
  refine aw_p 495 (
    .a 1 6 <| .nil _ _) ?_
  refine aw_w [(0, sV 0 4), (3, .pointer (some ⟨1, 0, none⟩)), (4, .int .i64 0), (5, .int .i64 1), (6, .int .i64 1), (7, .pointer (some ⟨4, 0, none⟩)), (8, .pointer (some ⟨5, 0, none⟩)), (12, .int .i64 4), (13, .int .i64 2), (14, .bool true), (33, .bool false), (38, .bool false), (59, .bool true)] [(0, ⟨[.int .i64 0, .int .i64 0, .int .i64 2, .int .i64 0, .int .i64 2, .int .i64 2, .int .i64 0, .int .i64 2], 28, true, 2⟩), (1, ⟨[.int .i64 1, .int .i64 1], 28, true, 2⟩), (4, ⟨[.int .i64 2, .int .i64 0], 28, true, 2⟩), (5, ⟨[.int .i64 2, .int .i64 2], 28, true, 2⟩)] ?_
  refine aw_sq 990 991 ?_
  refine aw_tr 1980 ?_
  refine aw_sk ?_
  refine then_normal ?_
  refine aw_sq 1982 1983 ?_
  refine aw_bl 1 3965 ?_
  refine aw_p 7931 (
    .a 2 6 <| .nil _ _) ?_
  refine aw_d 15863 (
    .a 4 6 <| .p (does_c (au_79)) <| .a 8 6 <| .p (does_c (au_82)) <| .a 4 6 <| .nil _ _) ?_
  refine aw_sq 31726 31727 ?_
  refine aw_p 63453 (
    .a 3 8 <| .p (does_c (au_100)) <| .nil _ _) ?_
  refine aw_fl 126907 ?_
  refine aw_sk ?_
  refine then_normal ?_
  refine aw_sq 63454 63455 ?_
  refine aw_p 126909 (
    .a 5 8 <| .nil _ _) ?_
  refine aw_w [(0, sV 0 4), (3, .pointer (some ⟨1, 0, none⟩)), (4, .int .i64 0), (5, .int .i64 1), (6, .int .i64 2), (7, .pointer (some ⟨6, 0, none⟩)), (8, .pointer (some ⟨7, 0, none⟩)), (12, .int .i64 4), (13, .int .i64 2), (14, .bool true), (33, .bool false), (38, .bool false), (59, .bool true)] [(0, ⟨[.int .i64 0, .int .i64 0, .int .i64 2, .int .i64 0, .int .i64 2, .int .i64 2, .int .i64 0, .int .i64 2], 28, true, 2⟩), (1, ⟨[.int .i64 1, .int .i64 1], 28, true, 2⟩), (6, ⟨[.int .i64 2, .int .i64 2], 28, true, 2⟩), (7, ⟨[.int .i64 0, .int .i64 2], 28, true, 2⟩)] ?_
  refine aw_fl 253819 ?_
  refine aw_sk ?_
  refine then_normal ?_
  refine aw_p 126911 (
    .a 19 8 <| .nil _ _) ?_
  refine aw_fl 253823 ?_
  refine aw_sk ?_
  refine block_normal ?_
  refine then_normal ?_
  refine aw_p1 (
    .a 2 8 <| .nil _ _) ?_
  refine then_normal ?_
  refine al_round ?_
  refine aw_p 495 (
    .a 1 8 <| .nil _ _) ?_
  refine aw_sq 990 991 ?_
  refine aw_tr 1980 ?_
  refine aw_sk ?_
  refine then_normal ?_
  refine aw_sq 1982 1983 ?_
  refine aw_bl 1 3965 ?_
  refine aw_p 7931 (
    .a 2 8 <| .nil _ _) ?_
  refine aw_d 15863 (
    .a 4 8 <| .p (does_c (au_82)) <| .a 8 8 <| .p (does_c (au_9)) <| .a 4 8 <| .nil _ _) ?_
  refine aw_w [(0, sV 0 4), (3, .pointer (some ⟨1, 0, none⟩)), (4, .int .i64 0), (5, .int .i64 1), (6, .int .i64 3), (7, .pointer (some ⟨8, 0, none⟩)), (8, .pointer (some ⟨9, 0, none⟩)), (12, .int .i64 4), (13, .int .i64 3), (14, .bool true), (33, .bool false), (38, .bool false), (59, .bool false)] [(0, ⟨[.int .i64 0, .int .i64 0, .int .i64 2, .int .i64 0, .int .i64 2, .int .i64 2, .int .i64 0, .int .i64 2], 28, true, 2⟩), (1, ⟨[.int .i64 1, .int .i64 1], 28, true, 2⟩), (8, ⟨[.int .i64 0, .int .i64 2], 28, true, 2⟩), (9, ⟨[.int .i64 0, .int .i64 0], 28, true, 2⟩)] ?_
  refine aw_sq 31726 31727 ?_
  refine aw_p 63453 (
    .a 3 10 <| .p (does_c (au_105)) <| .nil _ _) ?_
  refine aw_fl 126907 ?_
  refine aw_sk ?_
  refine then_normal ?_
  refine aw_sq 63454 63455 ?_
  refine aw_p 126909 (
    .a 5 10 <| .nil _ _) ?_
  refine aw_tr 253818 ?_
  refine aw_p1 (
    .a 4 10 <| .nil _ _) ?_
  refine then_normal ?_
  refine aw_p 126911 (
    .a 16 10 <| .p (does_c (au_109)) <| .a 2 10 <| .nil _ _) ?_
  refine aw_w [(0, sV 0 4), (3, .pointer (some ⟨1, 0, none⟩)), (4, .int .i64 0), (5, .int .i64 1), (6, .int .i64 3), (7, .pointer (some ⟨8, 0, none⟩)), (8, .pointer (some ⟨9, 0, none⟩)), (12, .int .i64 4), (13, .int .i64 3), (14, .bool true), (33, .bool false), (38, .bool true), (59, .bool false)] [(0, ⟨[.int .i64 0, .int .i64 0, .int .i64 2, .int .i64 0, .int .i64 2, .int .i64 2, .int .i64 0, .int .i64 2], 28, true, 2⟩), (1, ⟨[.int .i64 1, .int .i64 1], 28, true, 2⟩), (8, ⟨[.int .i64 0, .int .i64 0], 28, true, 2⟩), (9, ⟨[.int .i64 0, .int .i64 2], 28, true, 2⟩)] ?_
  refine aw_fl 253823 ?_
  refine aw_sk ?_
  refine block_normal ?_
  refine then_normal ?_
  refine aw_p1 (
    .a 2 10 <| .nil _ _) ?_
  refine then_normal ?_
  refine al_round ?_
  refine aw_p 495 (
    .a 1 10 <| .nil _ _) ?_
  refine aw_sq 990 991 ?_
  refine aw_fl 1981 ?_
  refine aw_ex 0 ?_
  refine then_exit ?_
  refine then_exit ?_
  refine block_exit ?_
  refine then_normal ?_
  refine aw_p 63 (
    .a 2 10 <| .nil _ _) ?_
  refine aw_rt ?_
  exact en_ret [.int .i64 1] (by kernel_rfl)
theorem au_111  :
    AC Tryz.prog 45 0 ([.int .u64 3, .int .u64 5]) [] (.tuple #[.int .u64 0, .int .u64 15]) [] := by
  refine ac_in Tryz.func45 (fun w0 W pin => ?_)
  refine aw_p 3 (
    .a 2 1 <| .nil _ _) ?_
  refine aw_p 7 (
    .a 3 1 <| .nil _ _) ?_
  refine aw_p 15 (
    .a 3 1 <| .nil _ _) ?_
  refine aw_p 31 (
    .a 3 1 <| .nil _ _) ?_
  refine aw_p 63 (
    .a 3 1 <| .nil _ _) ?_
  refine aw_p 127 (
    .a 4 1 <| .nil _ _) ?_
  refine aw_p 255 (
    .a 7 1 <| .nil _ _) ?_
  refine aw_w [(0, .int .u64 3), (1, .int .u64 5), (4, .int .u64 0), (5, .int .u64 0), (6, .int .u64 3), (7, .int .u64 0), (9, .int .u64 0), (11, .int .u64 0)] [] ?_
  refine aw_p 511 (
    .a 3 1 <| .nil _ _) ?_
  refine aw_p 1023 (
    .a 3 1 <| .nil _ _) ?_
  refine aw_p 2047 (
    .a 6 1 <| .nil _ _) ?_
  refine aw_p 4095 (
    .a 9 1 <| .nil _ _) ?_
  refine aw_p 8191 (
    .a 4 1 <| .nil _ _) ?_
  refine aw_w [(4, .int .u64 0), (5, .int .u64 15)] [] ?_
  refine aw_rt ?_
  exact en_ret [.int .u64 0, .int .u64 15] (by kernel_rfl)
theorem au_112  :
    AC Tryz.prog 18 0 ([.int .i64 3, .int .i64 5]) [] (.agg #[.int .i64 0, .int .u64 15]) [] := by
  refine ac_in Tryz.func18 (fun w0 W pin => ?_)
  refine aw_p 3 (
    .a 1 1 <| .nil _ _) ?_
  refine aw_p 7 (
    .a 4 2 <| .p (does_c (au_111)) <| .a 5 2 <| .nil _ _) ?_
  refine aw_sq 14 15 ?_
  refine aw_p 29 (
    .a 2 2 <| .nil _ _) ?_
  refine aw_fl 59 ?_
  refine aw_sk ?_
  refine then_normal ?_
  refine aw_sq 30 31 ?_
  refine aw_p 61 (
    .a 2 2 <| .nil _ _) ?_
  refine aw_fl 123 ?_
  refine aw_sk ?_
  refine then_normal ?_
  refine aw_p 63 (
    .a 5 2 <| .nil _ _) ?_
  refine aw_rt ?_
  exact en_ret [.agg #[.int .i64 0, .int .u64 15]] (by kernel_rfl)
theorem au_113  :
    AC Tryz.prog 19 0 ([.int .i64 15]) [] (.agg #[.int .i64 0, .int .u64 15]) [] := by
  refine ac_in Tryz.func19 (fun w0 W pin => ?_)
  refine aw_p 3 (
    .a 1 1 <| .nil _ _) ?_
  refine aw_p 7 (
    .a 6 2 <| .nil _ _) ?_
  refine aw_rt ?_
  exact en_ret [.agg #[.int .i64 0, .int .u64 15]] (by kernel_rfl)
theorem au_114  :
    AC Tryz.prog 87 0 ([.int .u64 4]) [] (.int .i64 3) [] := by
  refine ac_in Tryz.func87 (fun w0 W pin => ?_)
  refine aw_p 3 (
    .a 1 1 <| .nil _ _) ?_
  refine aw_sq 6 7 ?_
  refine aw_p 13 (
    .a 2 1 <| .nil _ _) ?_
  refine aw_fl 27 ?_
  refine aw_sk ?_
  refine then_normal ?_
  refine aw_sq 14 15 ?_
  refine aw_p 29 (
    .a 2 1 <| .nil _ _) ?_
  refine aw_fl 59 ?_
  refine aw_sk ?_
  refine then_normal ?_
  refine aw_sq 30 31 ?_
  refine aw_p 61 (
    .a 2 1 <| .nil _ _) ?_
  refine aw_fl 123 ?_
  refine aw_sk ?_
  refine then_normal ?_
  refine aw_p 63 (
    .a 3 1 <|
    .p (does_val (v' := .int .u8 3) (does_ixs (s := (ByteArray.mk #[0, 1, 2, 2, 3, 3, 3, 3, 4, 4, 4, 4, 4, 4, 4, 4, 5, 5, 5, 5, 5, 5, 5, 5, 5, 5, 5, 5, 5, 5, 5, 5, 6, 6, 6, 6, 6, 6, 6, 6, 6, 6, 6, 6, 6, 6, 6, 6, 6, 6, 6, 6, 6, 6, 6, 6, 6, 6, 6, 6, 6, 6, 6, 6, 7, 7, 7, 7, 7, 7, 7, 7, 7, 7, 7, 7, 7, 7, 7, 7, 7, 7, 7, 7, 7, 7, 7, 7, 7, 7, 7, 7, 7, 7, 7, 7, 7, 7, 7, 7, 7, 7, 7, 7, 7, 7, 7, 7, 7, 7, 7, 7, 7, 7, 7, 7, 7, 7, 7, 7, 7, 7, 7, 7, 7, 7, 7, 7, 8, 8, 8, 8, 8, 8, 8, 8, 8, 8, 8, 8, 8, 8, 8, 8, 8, 8, 8, 8, 8, 8, 8, 8, 8, 8, 8, 8, 8, 8, 8, 8, 8, 8, 8, 8, 8, 8, 8, 8, 8, 8, 8, 8, 8, 8, 8, 8, 8, 8, 8, 8, 8, 8, 8, 8, 8, 8, 8, 8, 8, 8, 8, 8, 8, 8, 8, 8, 8, 8, 8, 8, 8, 8, 8, 8, 8, 8, 8, 8, 8, 8, 8, 8, 8, 8, 8, 8, 8, 8, 8, 8, 8, 8, 8, 8, 8, 8, 8, 8, 8, 8, 8, 8, 8, 8, 8, 8, 8, 8, 8, 8, 8, 8, 8, 8, 8, 8, 8, 8, 8, 8, 8, 8, 8, 8, 8, 8])) (j := 4) (b := (3 : UInt8)) (by decide) (by kernel_rfl)) (by kernel_rfl)) <|
    .a 3 1 <| .nil _ _) ?_
  refine aw_rt ?_
  exact en_ret [.int .i64 3] (by kernel_rfl)
theorem au_115  :
    AC Tryz.prog 57 0 ([.int .u64 4]) [] (.int .i64 3) [] := by
  refine ac_in Tryz.func57 (fun w0 W pin => ?_)
  refine aw_p 3 (
    .a 1 1 <| .nil _ _) ?_
  refine aw_sq 6 7 ?_
  refine aw_fl 13 ?_
  refine aw_sk ?_
  refine then_normal ?_
  refine aw_p 15 (
    .a 1 1 <| .p (does_c (au_114)) <| .a 1 1 <| .nil _ _) ?_
  refine aw_rt ?_
  exact en_ret [.int .i64 3] (by kernel_rfl)
theorem au_116  :
    AC Tryz.prog 33 0 ([.agg #[.int .i64 2, .int .i64 0], .agg #[.int .i64 0, .int .i64 0]]) [] (.int .i64 1) [] := by
  refine ac_in Tryz.func33 (fun w0 W pin => ?_)
  refine aw_p 3 (
    .a 3 1 <| .nil _ _) ?_
  refine aw_sq 6 7 ?_
  refine aw_p 13 (
    .a 4 3 <| .p (does_c (au_88)) <| .a 1 3 <| .nil _ _) ?_
  refine aw_p 27 (
    .a 2 3 <| .nil _ _) ?_
  refine aw_tr 54 ?_
  refine aw_p 109 (
    .a 2 3 <| .nil _ _) ?_
  refine aw_rt ?_
  refine then_ret ?_
  exact en_ret [.int .i64 1] (by kernel_rfl)
theorem au_117  :
    AC Tryz.prog 58 0 ([.int .i64 2, .int .i64 2]) [] (.int .i64 0) [] := by
  refine ac_in Tryz.func58 (fun w0 W pin => ?_)
  refine aw_p 3 (
    .a 1 1 <| .nil _ _) ?_
  refine aw_p 7 (
    .a 1 1 <| .p (does_c (au_87)) <| .a 1 1 <| .nil _ _) ?_
  refine aw_p 15 (
    .a 1 1 <| .p (does_c (au_87)) <| .a 1 1 <| .nil _ _) ?_
  refine aw_sq 30 31 ?_
  refine aw_p 61 (
    .a 1 1 <| .nil _ _) ?_
  refine aw_fl 123 ?_
  refine aw_sk ?_
  refine then_normal ?_
  refine aw_sq 62 63 ?_
  refine aw_p 125 (
    .a 1 1 <| .nil _ _) ?_
  refine aw_fl 251 ?_
  refine aw_sk ?_
  refine then_normal ?_
  refine aw_sq 126 127 ?_
  refine aw_p 253 (
    .a 3 1 <| .nil _ _) ?_
  refine aw_fl 507 ?_
  refine aw_sk ?_
  refine then_normal ?_
  refine aw_sq 254 255 ?_
  refine aw_p 509 (
    .a 3 1 <| .nil _ _) ?_
  refine aw_fl 1019 ?_
  refine aw_sk ?_
  refine then_normal ?_
  refine aw_p 511 (
    .a 1 1 <| .nil _ _) ?_
  refine aw_rt ?_
  exact en_ret [.int .i64 0] (by kernel_rfl)
theorem au_118  :
    AC Tryz.prog 33 0 ([.agg #[.int .i64 2, .int .i64 2], .agg #[.int .i64 2, .int .i64 0]]) [] (.int .i64 1) [] := by
  refine ac_in Tryz.func33 (fun w0 W pin => ?_)
  refine aw_p 3 (
    .a 3 1 <| .nil _ _) ?_
  refine aw_sq 6 7 ?_
  refine aw_p 13 (
    .a 4 3 <| .p (does_c (au_117)) <| .a 1 3 <| .nil _ _) ?_
  refine aw_p 27 (
    .a 2 3 <| .nil _ _) ?_
  refine aw_fl 55 ?_
  refine aw_sk ?_
  refine then_normal ?_
  refine aw_p 15 (
    .a 4 3 <| .p (does_c (au_88)) <| .a 1 3 <| .nil _ _) ?_
  refine aw_rt ?_
  exact en_ret [.int .i64 1] (by kernel_rfl)
theorem au_119  :
    AC Tryz.prog 58 0 ([.int .i64 0, .int .i64 2]) [] (.int .i64 (-1)) [] := by
  refine ac_in Tryz.func58 (fun w0 W pin => ?_)
  refine aw_p 3 (
    .a 1 1 <| .nil _ _) ?_
  refine aw_p 7 (
    .a 1 1 <| .p (does_c (au_18)) <| .a 1 1 <| .nil _ _) ?_
  refine aw_p 15 (
    .a 1 1 <| .p (does_c (au_87)) <| .a 1 1 <| .nil _ _) ?_
  refine aw_sq 30 31 ?_
  refine aw_p 61 (
    .a 1 1 <| .nil _ _) ?_
  refine aw_fl 123 ?_
  refine aw_sk ?_
  refine then_normal ?_
  refine aw_sq 62 63 ?_
  refine aw_p 125 (
    .a 1 1 <| .nil _ _) ?_
  refine aw_fl 251 ?_
  refine aw_sk ?_
  refine then_normal ?_
  refine aw_sq 126 127 ?_
  refine aw_p 253 (
    .a 3 1 <| .nil _ _) ?_
  refine aw_tr 506 ?_
  refine aw_p 1013 (
    .a 1 1 <| .nil _ _) ?_
  refine aw_rt ?_
  refine then_ret ?_
  exact en_ret [.int .i64 (-1)] (by kernel_rfl)
theorem au_120  :
    AC Tryz.prog 33 0 ([.agg #[.int .i64 0, .int .i64 2], .agg #[.int .i64 2, .int .i64 2]]) [] (.int .i64 (-1)) [] := by
  refine ac_in Tryz.func33 (fun w0 W pin => ?_)
  refine aw_p 3 (
    .a 3 1 <| .nil _ _) ?_
  refine aw_sq 6 7 ?_
  refine aw_p 13 (
    .a 4 3 <| .p (does_c (au_119)) <| .a 1 3 <| .nil _ _) ?_
  refine aw_p 27 (
    .a 2 3 <| .nil _ _) ?_
  refine aw_tr 54 ?_
  refine aw_p 109 (
    .a 2 3 <| .nil _ _) ?_
  refine aw_rt ?_
  refine then_ret ?_
  exact en_ret [.int .i64 (-1)] (by kernel_rfl)
theorem au_121  :
    AC Tryz.prog 33 0 ([.agg #[.int .i64 0, .int .i64 2], .agg #[.int .i64 2, .int .i64 0]]) [] (.int .i64 (-1)) [] := by
  refine ac_in Tryz.func33 (fun w0 W pin => ?_)
  refine aw_p 3 (
    .a 3 1 <| .nil _ _) ?_
  refine aw_sq 6 7 ?_
  refine aw_p 13 (
    .a 4 3 <| .p (does_c (au_119)) <| .a 1 3 <| .nil _ _) ?_
  refine aw_p 27 (
    .a 2 3 <| .nil _ _) ?_
  refine aw_tr 54 ?_
  refine aw_p 109 (
    .a 2 3 <| .nil _ _) ?_
  refine aw_rt ?_
  refine then_ret ?_
  exact en_ret [.int .i64 (-1)] (by kernel_rfl)
theorem au_122  :
    AC Tryz.prog 58 0 ([.int .i64 0, .int .i64 0]) [] (.int .i64 0) [] := by
  refine ac_in Tryz.func58 (fun w0 W pin => ?_)
  refine aw_p 3 (
    .a 1 1 <| .nil _ _) ?_
  refine aw_p 7 (
    .a 1 1 <| .p (does_c (au_18)) <| .a 1 1 <| .nil _ _) ?_
  refine aw_p 15 (
    .a 1 1 <| .p (does_c (au_18)) <| .a 1 1 <| .nil _ _) ?_
  refine aw_sq 30 31 ?_
  refine aw_p 61 (
    .a 1 1 <| .nil _ _) ?_
  refine aw_fl 123 ?_
  refine aw_sk ?_
  refine then_normal ?_
  refine aw_sq 62 63 ?_
  refine aw_p 125 (
    .a 1 1 <| .nil _ _) ?_
  refine aw_fl 251 ?_
  refine aw_sk ?_
  refine then_normal ?_
  refine aw_sq 126 127 ?_
  refine aw_p 253 (
    .a 3 1 <| .nil _ _) ?_
  refine aw_fl 507 ?_
  refine aw_sk ?_
  refine then_normal ?_
  refine aw_sq 254 255 ?_
  refine aw_p 509 (
    .a 3 1 <| .nil _ _) ?_
  refine aw_fl 1019 ?_
  refine aw_sk ?_
  refine then_normal ?_
  refine aw_p 511 (
    .a 1 1 <| .nil _ _) ?_
  refine aw_rt ?_
  exact en_ret [.int .i64 0] (by kernel_rfl)
theorem au_123  :
    AC Tryz.prog 33 0 ([.agg #[.int .i64 0, .int .i64 2], .agg #[.int .i64 0, .int .i64 0]]) [] (.int .i64 1) [] := by
  refine ac_in Tryz.func33 (fun w0 W pin => ?_)
  refine aw_p 3 (
    .a 3 1 <| .nil _ _) ?_
  refine aw_sq 6 7 ?_
  refine aw_p 13 (
    .a 4 3 <| .p (does_c (au_122)) <| .a 1 3 <| .nil _ _) ?_
  refine aw_p 27 (
    .a 2 3 <| .nil _ _) ?_
  refine aw_fl 55 ?_
  refine aw_sk ?_
  refine then_normal ?_
  refine aw_p 15 (
    .a 4 3 <| .p (does_c (au_88)) <| .a 1 3 <| .nil _ _) ?_
  refine aw_rt ?_
  exact en_ret [.int .i64 1] (by kernel_rfl)
theorem au_124  :
    AC Tryz.prog 98 1 ([sV 0 4, .int .i64 0, .int .i64 4, .func (.func 33) #[] #[]]) [(0, ⟨[.int .i64 0, .int .i64 0, .int .i64 2, .int .i64 0, .int .i64 2, .int .i64 2, .int .i64 0, .int .i64 2], 28, true, 2⟩)] (.tuple #[]) [(0, ⟨[.int .i64 0, .int .i64 0, .int .i64 0, .int .i64 2, .int .i64 2, .int .i64 0, .int .i64 2, .int .i64 2], 28, true, 2⟩)] := by
  refine ac_in Tryz.func98 (fun w0 W pin => ?_)
  refine aw_p 3 (
    .a 3 1 <| .nil _ _) ?_
  refine aw_bl 0 7 ?_
  refine aw_lp 15 ?_
  refine al_round ?_
  refine aw_sq 30 31 ?_
  refine aw_p 61 (
    .a 3 1 <| .nil _ _) ?_
  refine aw_tr 122 ?_
  refine aw_sk ?_
  refine then_normal ?_
  refine aw_sq 62 63 ?_
  refine aw_bl 1 125 ?_
  refine aw_p 251 (
    .a 2 1 <| .nil _ _) ?_
  refine aw_bl 2 503 ?_
  refine aw_lp 1007 ?_
  refine al_round ?_
  refine aw_sq 2014 2015 ?_
  refine aw_d 4029 (
    .a 14 1 <| .p (does_c (au_116)) <| .a 2 1 <| .nil _ _) ?_
  refine aw_w [(0, sV 0 4), (1, .int .i64 0), (2, .int .i64 4), (3, .func (.func 33) #[] #[]), (8, .int .i64 1), (9, .int .i64 1), (14, .bool true), (34, .bool false)] [(0, ⟨[.int .i64 0, .int .i64 0, .int .i64 2, .int .i64 0, .int .i64 2, .int .i64 2, .int .i64 0, .int .i64 2], 28, true, 2⟩)] ?_
  refine aw_fl 8059 ?_
  refine aw_ex 2 ?_
  refine then_exit ?_
  refine then_exit ?_
  refine block_exit ?_
  refine block_normal ?_
  refine then_normal ?_
  refine aw_p1 (
    .a 3 1 <| .nil _ _) ?_
  refine then_normal ?_
  refine al_round ?_
  refine aw_sq 30 31 ?_
  refine aw_p 61 (
    .a 3 1 <| .nil _ _) ?_
  refine aw_tr 122 ?_
  refine aw_sk ?_
  refine then_normal ?_
  refine aw_sq 62 63 ?_
  refine aw_bl 1 125 ?_
  refine aw_p 251 (
    .a 2 1 <| .nil _ _) ?_
  refine aw_bl 2 503 ?_
  refine aw_lp 1007 ?_
  refine al_round ?_
  refine aw_sq 2014 2015 ?_
  refine aw_d 4029 (
    .a 14 1 <| .p (does_c (au_118)) <| .a 2 1 <| .nil _ _) ?_
  refine aw_w [(0, sV 0 4), (1, .int .i64 0), (2, .int .i64 4), (3, .func (.func 33) #[] #[]), (8, .int .i64 2), (9, .int .i64 2), (14, .bool true), (34, .bool false)] [(0, ⟨[.int .i64 0, .int .i64 0, .int .i64 2, .int .i64 0, .int .i64 2, .int .i64 2, .int .i64 0, .int .i64 2], 28, true, 2⟩)] ?_
  refine aw_fl 8059 ?_
  refine aw_ex 2 ?_
  refine then_exit ?_
  refine then_exit ?_
  refine block_exit ?_
  refine block_normal ?_
  refine then_normal ?_
  refine aw_p1 (
    .a 3 1 <| .nil _ _) ?_
  refine then_normal ?_
  refine al_round ?_
  refine aw_sq 30 31 ?_
  refine aw_p 61 (
    .a 3 1 <| .nil _ _) ?_
  refine aw_tr 122 ?_
  refine aw_sk ?_
  refine then_normal ?_
  refine aw_sq 62 63 ?_
  refine aw_bl 1 125 ?_
  refine aw_p 251 (
    .a 2 1 <| .nil _ _) ?_
  refine aw_bl 2 503 ?_
  refine aw_lp 1007 ?_
  refine al_round ?_
  refine aw_sq 2014 2015 ?_
  refine aw_d 4029 (
    .a 14 1 <| .p (does_c (au_120)) <| .a 2 1 <| .nil _ _) ?_
  refine aw_w [(0, sV 0 4), (1, .int .i64 0), (2, .int .i64 4), (3, .func (.func 33) #[] #[]), (8, .int .i64 3), (9, .int .i64 3), (14, .bool true), (34, .bool true)] [(0, ⟨[.int .i64 0, .int .i64 0, .int .i64 2, .int .i64 0, .int .i64 2, .int .i64 2, .int .i64 0, .int .i64 2], 28, true, 2⟩)] ?_
  refine aw_tr 8058 ?_
  refine aw_sk ?_
  refine then_normal ?_
  refine aw_sq 4030 4031 ?_
  refine aw_bl 3 8061 ?_
  refine aw_d1 (
    .a 18 1 <| .nil _ _) ?_
  refine block_normal ?_
  refine then_normal ?_
  refine aw_p1 (
    .a 3 1 <| .nil _ _) ?_
  refine then_normal ?_
  refine al_round ?_
  refine aw_sq 2014 2015 ?_
  refine aw_d 4029 (
    .a 14 1 <| .p (does_c (au_121)) <| .a 2 1 <| .nil _ _) ?_
  refine aw_w [(0, sV 0 4), (1, .int .i64 0), (2, .int .i64 4), (3, .func (.func 33) #[] #[]), (8, .int .i64 3), (9, .int .i64 2), (14, .bool true), (34, .bool true)] [(0, ⟨[.int .i64 0, .int .i64 0, .int .i64 2, .int .i64 0, .int .i64 0, .int .i64 2, .int .i64 2, .int .i64 2], 28, true, 2⟩)] ?_
  refine aw_tr 8058 ?_
  refine aw_sk ?_
  refine then_normal ?_
  refine aw_sq 4030 4031 ?_
  refine aw_bl 3 8061 ?_
  refine aw_d1 (
    .a 18 1 <| .nil _ _) ?_
  refine block_normal ?_
  refine then_normal ?_
  refine aw_p1 (
    .a 3 1 <| .nil _ _) ?_
  refine then_normal ?_
  refine al_round ?_
  refine aw_sq 2014 2015 ?_
  refine aw_d 4029 (
    .a 14 1 <| .p (does_c (au_123)) <| .a 2 1 <| .nil _ _) ?_
  refine aw_w [(0, sV 0 4), (1, .int .i64 0), (2, .int .i64 4), (3, .func (.func 33) #[] #[]), (8, .int .i64 3), (9, .int .i64 1), (14, .bool true), (34, .bool false)] [(0, ⟨[.int .i64 0, .int .i64 0, .int .i64 0, .int .i64 2, .int .i64 2, .int .i64 0, .int .i64 2, .int .i64 2], 28, true, 2⟩)] ?_
  refine aw_fl 8059 ?_
  refine aw_ex 2 ?_
  refine then_exit ?_
  refine then_exit ?_
  refine block_exit ?_
  refine block_normal ?_
  refine then_normal ?_
  refine aw_p1 (
    .a 3 1 <| .nil _ _) ?_
  refine then_normal ?_
  refine al_round ?_
  refine aw_sq 30 31 ?_
  refine aw_p 61 (
    .a 3 1 <| .nil _ _) ?_
  refine aw_fl 123 ?_
  refine aw_ex 0 ?_
  refine then_exit ?_
  refine then_exit ?_
  refine block_exit ?_
  exact en_normal [] (by kernel_rfl)
theorem au_125  :
    AC Tryz.prog 75 1 ([sV 0 4, .int .i64 0, .int .i64 4, .int .i64 3, .func (.func 33) #[] #[]]) [(0, ⟨[.int .i64 0, .int .i64 0, .int .i64 2, .int .i64 0, .int .i64 2, .int .i64 2, .int .i64 0, .int .i64 2], 28, true, 2⟩)] (.tuple #[]) [(0, ⟨[.int .i64 0, .int .i64 0, .int .i64 0, .int .i64 2, .int .i64 2, .int .i64 0, .int .i64 2, .int .i64 2], 28, true, 2⟩)] := by
  refine ac_in Tryz.func75 (fun w0 W pin => ?_)
  refine aw_p 3 (
    .a 1 1 <| .nil _ _) ?_
  refine aw_p 7 (
    .a 1 1 <| .nil _ _) ?_
  refine aw_bl 0 15 ?_
  refine aw_lp 31 ?_
  refine al_round ?_
  refine aw_bl 1 63 ?_
  refine aw_p 127 (
    .a 4 1 <| .nil _ _) ?_
  refine aw_sq 254 255 ?_
  refine aw_p 509 (
    .a 2 1 <| .nil _ _) ?_
  refine aw_tr 1018 ?_
  refine aw_p 2037 (
    .a 4 1 <| .p (does_k [0] (au_124)) <| .nil _ _) ?_
  refine aw_rt ?_
  refine then_ret ?_
  refine block_ret ?_
  refine then_ret ?_
  refine block_ret ?_
  exact en_ret [] (by kernel_rfl)
theorem au_126  :
    AC Tryz.prog 46 1 ([sV 0 4, .func (.func 33) #[] #[]]) [(0, ⟨[.int .i64 0, .int .i64 0, .int .i64 2, .int .i64 0, .int .i64 2, .int .i64 2, .int .i64 0, .int .i64 2], 28, true, 2⟩)] (.tuple #[]) [(0, ⟨[.int .i64 0, .int .i64 0, .int .i64 0, .int .i64 2, .int .i64 2, .int .i64 0, .int .i64 2, .int .i64 2], 28, true, 2⟩)] := by
  refine ac_in Tryz.func46 (fun w0 W pin => ?_)
  refine aw_p 3 (
    .a 3 1 <| .nil _ _) ?_
  refine aw_p1 (
    .a 4 1 <| .p (does_c (au_115)) <| .a 1 1 <| .p (does_k [0] (au_125)) <| .nil _ _) ?_
  exact en_normal [] (by kernel_rfl)
theorem au_127  :
    AC Tryz.prog 47 1 ([sV 0 4]) [(0, ⟨[.int .i64 0, .int .i64 0, .int .i64 0, .int .i64 2, .int .i64 2, .int .i64 0, .int .i64 2, .int .i64 2], 28, true, 2⟩)] (sV 0 4) [(0, ⟨[.int .i64 0, .int .i64 0, .int .i64 0, .int .i64 2, .int .i64 2, .int .i64 0, .int .i64 2, .int .i64 2], 28, true, 2⟩)] := by
  refine ac_in Tryz.func47 (fun w0 W pin => ?_)
  refine aw_p 3 (
    .a 1 1 <| .nil _ _) ?_
  refine aw_sq 6 7 ?_
  refine aw_p 13 (
    .a 3 1 <| .nil _ _) ?_
  refine aw_fl 27 ?_
  refine aw_sk ?_
  refine then_normal ?_
  refine aw_sq 14 15 ?_
  refine aw_p 29 (
    .a 1 1 <| .nil _ _) ?_
  refine aw_bl 0 59 ?_
  refine aw_lp 119 ?_
  refine al_round ?_
  refine aw_sq 238 239 ?_
  refine aw_p 477 (
    .a 4 1 <| .nil _ _) ?_
  refine aw_tr 954 ?_
  refine aw_sk ?_
  refine then_normal ?_
  refine aw_sq 478 479 ?_
  refine aw_bl 1 957 ?_
  refine aw_d 1915 (
    .a 9 1 <| .p (does_e false ((show ((0 == 0) && ((2 == 0) && true)) = false from by decide))) <| .nil _ _) ?_
  refine aw_fl 3831 ?_
  refine aw_sk ?_
  refine block_normal ?_
  refine then_normal ?_
  refine aw_p1 (
    .a 3 1 <| .nil _ _) ?_
  refine then_normal ?_
  refine al_round ?_
  refine aw_sq 238 239 ?_
  refine aw_p 477 (
    .a 4 1 <| .nil _ _) ?_
  refine aw_w [(0, sV 0 4), (2, .slice none 0 0), (3, .int .i64 2), (13, .bool true), (25, .bool false)] [(0, ⟨[.int .i64 0, .int .i64 0, .int .i64 0, .int .i64 2, .int .i64 2, .int .i64 0, .int .i64 2, .int .i64 2], 28, true, 2⟩)] ?_
  refine aw_tr 954 ?_
  refine aw_sk ?_
  refine then_normal ?_
  refine aw_sq 478 479 ?_
  refine aw_bl 1 957 ?_
  refine aw_d 1915 (
    .a 9 1 <| .p (does_e false ((show ((2 == 0) && ((0 == 2) && true)) = false from by decide))) <| .nil _ _) ?_
  refine aw_fl 3831 ?_
  refine aw_sk ?_
  refine block_normal ?_
  refine then_normal ?_
  refine aw_p1 (
    .a 3 1 <| .nil _ _) ?_
  refine then_normal ?_
  refine al_round ?_
  refine aw_sq 238 239 ?_
  refine aw_p 477 (
    .a 4 1 <| .nil _ _) ?_
  refine aw_tr 954 ?_
  refine aw_sk ?_
  refine then_normal ?_
  refine aw_sq 478 479 ?_
  refine aw_bl 1 957 ?_
  refine aw_d 1915 (
    .a 9 1 <| .p (does_e false ((show ((2 == 2) && ((2 == 0) && true)) = false from by decide))) <| .nil _ _) ?_
  refine aw_w [(0, sV 0 4), (2, .slice none 0 0), (3, .int .i64 3), (13, .bool true), (25, .bool false)] [(0, ⟨[.int .i64 0, .int .i64 0, .int .i64 0, .int .i64 2, .int .i64 2, .int .i64 0, .int .i64 2, .int .i64 2], 28, true, 2⟩)] ?_
  refine aw_fl 3831 ?_
  refine aw_sk ?_
  refine block_normal ?_
  refine then_normal ?_
  refine aw_p1 (
    .a 3 1 <| .nil _ _) ?_
  refine then_normal ?_
  refine al_round ?_
  refine aw_sq 238 239 ?_
  refine aw_p 477 (
    .a 4 1 <| .nil _ _) ?_
  refine aw_fl 955 ?_
  refine aw_ex 0 ?_
  refine then_exit ?_
  refine then_exit ?_
  refine block_exit ?_
  refine then_normal ?_
  refine aw_p 31 (
    .a 2 1 <| .nil _ _) ?_
  refine aw_rt ?_
  exact en_ret [sV 0 4] (by kernel_rfl)
theorem au_128  :
    AC Tryz.prog 38 0 ([.agg #[.int .i64 0, .int .i64 0], .agg #[.int .i64 0, .int .i64 2], .agg #[.int .i64 2, .int .i64 0]]) [] (.int .i64 (-4)) [] := by
  refine ac_in Tryz.func38 (fun w0 W pin => ?_)
  refine aw_p 3 (
    .a 4 1 <| .nil _ _) ?_
  refine aw_d 7 (
    .a 2 4 <| .p (does_c (au_83)) <| .a 2 4 <| .p (does_c (au_78)) <| .a 4 4 <| .nil _ _) ?_
  refine aw_p 15 (
    .a 12 6 <| .nil _ _) ?_
  refine aw_w [(6, .int .i64 (-4))] [] ?_
  refine aw_rt ?_
  exact en_ret [.int .i64 (-4)] (by kernel_rfl)
theorem au_129  :
    AC Tryz.prog 88 0 ([.int .i64 (-4)]) [] (.bool false) [] := by
  refine ac_in Tryz.func88 (fun w0 W pin => ?_)
  refine aw_p 3 (
    .a 1 1 <| .nil _ _) ?_
  refine aw_p 7 (
    .a 4 1 <| .nil _ _) ?_
  refine aw_rt ?_
  exact en_ret [.bool false] (by kernel_rfl)
theorem au_130  :
    AC Tryz.prog 58 0 ([.int .i64 (-4), .int .i64 0]) [] (.int .i64 (-1)) [] := by
  refine ac_in Tryz.func58 (fun w0 W pin => ?_)
  refine aw_p 3 (
    .a 1 1 <| .nil _ _) ?_
  refine aw_p 7 (
    .a 1 1 <| .p (does_c (au_129)) <| .a 1 1 <| .nil _ _) ?_
  refine aw_p 15 (
    .a 1 1 <| .p (does_c (au_18)) <| .a 1 1 <| .nil _ _) ?_
  refine aw_sq 30 31 ?_
  refine aw_p 61 (
    .a 1 1 <| .nil _ _) ?_
  refine aw_fl 123 ?_
  refine aw_sk ?_
  refine then_normal ?_
  refine aw_sq 62 63 ?_
  refine aw_p 125 (
    .a 1 1 <| .nil _ _) ?_
  refine aw_fl 251 ?_
  refine aw_sk ?_
  refine then_normal ?_
  refine aw_sq 126 127 ?_
  refine aw_p 253 (
    .a 3 1 <| .nil _ _) ?_
  refine aw_tr 506 ?_
  refine aw_p 1013 (
    .a 1 1 <| .nil _ _) ?_
  refine aw_rt ?_
  refine then_ret ?_
  exact en_ret [.int .i64 (-1)] (by kernel_rfl)
theorem au_131  :
    AC Tryz.prog 40 0 ([.agg #[.int .i64 0, .int .i64 0], .agg #[.int .i64 0, .int .i64 2], .agg #[.int .i64 2, .int .i64 0]]) [] (.int .i64 (-1)) [] := by
  refine ac_in Tryz.func40 (fun w0 W pin => ?_)
  refine aw_p 3 (
    .a 4 1 <| .nil _ _) ?_
  refine aw_p 7 (
    .a 3 4 <| .p (does_c (au_128)) <| .p (does_c (au_130)) <| .a 1 4 <| .nil _ _) ?_
  refine aw_rt ?_
  exact en_ret [.int .i64 (-1)] (by kernel_rfl)
theorem au_132  :
    AC Tryz.prog 88 0 ([.int .i64 4]) [] (.bool false) [] := by
  refine ac_in Tryz.func88 (fun w0 W pin => ?_)
  refine aw_p 3 (
    .a 1 1 <| .nil _ _) ?_
  refine aw_p 7 (
    .a 4 1 <| .nil _ _) ?_
  refine aw_rt ?_
  exact en_ret [.bool false] (by kernel_rfl)
theorem au_133  :
    AC Tryz.prog 58 0 ([.int .i64 4, .int .i64 0]) [] (.int .i64 1) [] := by
  refine ac_in Tryz.func58 (fun w0 W pin => ?_)
  refine aw_p 3 (
    .a 1 1 <| .nil _ _) ?_
  refine aw_p 7 (
    .a 1 1 <| .p (does_c (au_132)) <| .a 1 1 <| .nil _ _) ?_
  refine aw_p 15 (
    .a 1 1 <| .p (does_c (au_18)) <| .a 1 1 <| .nil _ _) ?_
  refine aw_sq 30 31 ?_
  refine aw_p 61 (
    .a 1 1 <| .nil _ _) ?_
  refine aw_fl 123 ?_
  refine aw_sk ?_
  refine then_normal ?_
  refine aw_sq 62 63 ?_
  refine aw_p 125 (
    .a 1 1 <| .nil _ _) ?_
  refine aw_fl 251 ?_
  refine aw_sk ?_
  refine then_normal ?_
  refine aw_sq 126 127 ?_
  refine aw_p 253 (
    .a 3 1 <| .nil _ _) ?_
  refine aw_fl 507 ?_
  refine aw_sk ?_
  refine then_normal ?_
  refine aw_sq 254 255 ?_
  refine aw_p 509 (
    .a 3 1 <| .nil _ _) ?_
  refine aw_tr 1018 ?_
  refine aw_p 2037 (
    .a 1 1 <| .nil _ _) ?_
  refine aw_rt ?_
  refine then_ret ?_
  exact en_ret [.int .i64 1] (by kernel_rfl)
theorem au_134  :
    AC Tryz.prog 40 0 ([.agg #[.int .i64 0, .int .i64 0], .agg #[.int .i64 2, .int .i64 0], .agg #[.int .i64 2, .int .i64 2]]) [] (.int .i64 1) [] := by
  refine ac_in Tryz.func40 (fun w0 W pin => ?_)
  refine aw_p 3 (
    .a 4 1 <| .nil _ _) ?_
  refine aw_p 7 (
    .a 3 4 <| .p (does_c (au_81)) <| .p (does_c (au_133)) <| .a 1 4 <| .nil _ _) ?_
  refine aw_rt ?_
  exact en_ret [.int .i64 1] (by kernel_rfl)
theorem au_135  :
    AC Tryz.prog 48 1 ([.slice none 0 0, sV 0 4]) [(0, ⟨[.int .i64 0, .int .i64 0, .int .i64 0, .int .i64 2, .int .i64 2, .int .i64 0, .int .i64 2, .int .i64 2], 28, true, 2⟩)] (sV 1 2) [(0, ⟨[.int .i64 0, .int .i64 0, .int .i64 0, .int .i64 2, .int .i64 2, .int .i64 0, .int .i64 2, .int .i64 2], 28, true, 2⟩), (1, ⟨[.int .i64 0, .int .i64 0, .int .i64 2, .int .i64 0, .int .i64 2, .int .i64 2], 28, true, 2⟩)] := by
  refine ac_in Tryz.func48 (fun w0 W pin => ?_)
  refine aw_p 3 (
    .a 1 1 <| .nil _ _) ?_
  refine aw_p 7 (
    .a 3 1 <| .nil _ _) ?_
  refine aw_sq 14 15 ?_
  refine aw_p 29 (
    .a 3 1 <| .nil _ _) ?_
  refine aw_bl 0 59 ?_
  refine aw_lp 119 ?_
  refine al_round ?_
  refine aw_p 239 (
    .a 1 1 <| .nil _ _) ?_
  refine aw_sq 478 479 ?_
  refine aw_tr 956 ?_
  refine aw_sk ?_
  refine then_normal ?_
  refine aw_sq 958 959 ?_
  refine aw_bl 1 1917 ?_
  refine aw_p 3835 (
    .a 4 1 <| .nil _ _) ?_
  refine aw_sq 7670 7671 ?_
  refine aw_bl 2 15341 ?_
  refine aw_lp 30683 ?_
  refine al_round ?_
  refine aw_sq 61366 61367 ?_
  refine aw_d 122733 (
    .a 22 2 <| .nil _ _) ?_
  refine aw_w [(0, .slice none 0 0), (4, .slice none 0 0), (5, .int .i64 0), (7, .pointer (some ⟨1, 0, none⟩)), (10, sV 0 4), (11, .int .i64 4), (12, .int .i64 0), (13, .bool true), (37, .bool false)] [(0, ⟨[.int .i64 0, .int .i64 0, .int .i64 0, .int .i64 2, .int .i64 2, .int .i64 0, .int .i64 2, .int .i64 2], 28, true, 2⟩), (1, ⟨[.int .i64 0, .int .i64 0], 28, true, 2⟩)] ?_
  refine aw_fl 245467 ?_
  refine aw_ex 2 ?_
  refine then_exit ?_
  refine then_exit ?_
  refine block_exit ?_
  refine then_normal ?_
  refine aw_p1 (
    .a 3 2 <| .p (does_ap 3) <| .a 1 4 <| .nil _ _) ?_
  refine block_normal ?_
  refine then_normal ?_
  refine aw_p1 (
    .a 2 4 <| .nil _ _) ?_
  refine then_normal ?_
  refine al_round ?_
  refine aw_p 239 (
    .a 1 4 <| .nil _ _) ?_
  refine aw_sq 478 479 ?_
  refine aw_tr 956 ?_
  refine aw_sk ?_
  refine then_normal ?_
  refine aw_sq 958 959 ?_
  refine aw_bl 1 1917 ?_
  refine aw_p 3835 (
    .a 4 4 <| .nil _ _) ?_
  refine aw_sq 7670 7671 ?_
  refine aw_bl 2 15341 ?_
  refine aw_lp 30683 ?_
  refine al_round ?_
  refine aw_sq 61366 61367 ?_
  refine aw_d 122733 (
    .a 22 5 <| .nil _ _) ?_
  refine aw_w [(0, sV 3 1), (4, .slice none 0 0), (5, .int .i64 0), (7, .pointer (some ⟨4, 0, none⟩)), (10, sV 0 4), (11, .int .i64 4), (12, .int .i64 1), (13, .bool true), (37, .bool false)] [(0, ⟨[.int .i64 0, .int .i64 0, .int .i64 0, .int .i64 2, .int .i64 2, .int .i64 0, .int .i64 2, .int .i64 2], 28, true, 2⟩), (3, ⟨[.int .i64 0, .int .i64 0], 28, true, 2⟩), (4, ⟨[.int .i64 0, .int .i64 2], 28, true, 2⟩)] ?_
  refine aw_fl 245467 ?_
  refine aw_ex 2 ?_
  refine then_exit ?_
  refine then_exit ?_
  refine block_exit ?_
  refine then_normal ?_
  refine aw_p1 (
    .a 3 5 <| .p (does_ap 6) <| .a 1 7 <| .nil _ _) ?_
  refine block_normal ?_
  refine then_normal ?_
  refine aw_p1 (
    .a 2 7 <| .nil _ _) ?_
  refine then_normal ?_
  refine al_round ?_
  refine aw_p 239 (
    .a 1 7 <| .nil _ _) ?_
  refine aw_sq 478 479 ?_
  refine aw_tr 956 ?_
  refine aw_sk ?_
  refine then_normal ?_
  refine aw_sq 958 959 ?_
  refine aw_bl 1 1917 ?_
  refine aw_p 3835 (
    .a 4 7 <| .nil _ _) ?_
  refine aw_sq 7670 7671 ?_
  refine aw_bl 2 15341 ?_
  refine aw_lp 30683 ?_
  refine al_round ?_
  refine aw_sq 61366 61367 ?_
  refine aw_d 122733 (
    .a 19 8 <| .p (does_c (au_131)) <| .a 2 8 <| .nil _ _) ?_
  refine aw_w [(0, sV 6 2), (4, .slice none 0 0), (5, .int .i64 0), (7, .pointer (some ⟨7, 0, none⟩)), (10, sV 0 4), (11, .int .i64 4), (12, .int .i64 2), (13, .bool true), (37, .bool true)] [(0, ⟨[.int .i64 0, .int .i64 0, .int .i64 0, .int .i64 2, .int .i64 2, .int .i64 0, .int .i64 2, .int .i64 2], 28, true, 2⟩), (6, ⟨[.int .i64 0, .int .i64 0, .int .i64 0, .int .i64 2], 28, true, 2⟩), (7, ⟨[.int .i64 2, .int .i64 0], 28, true, 2⟩)] ?_
  refine aw_tr 245466 ?_
  refine aw_sk ?_
  refine then_normal ?_
  refine aw_bl 3 122735 ?_
  refine aw_p1 (
    .a 4 8 <|
    .p (does_val (v' := sV 6 1) (does_slice (t := 39) (x := .tmp 38) (lo := none) (hi := some (.tmp 41)) (k := 6) (off := 0) (n := 2) (c := 0) (z := 2) (l := 0) (h := 1) (m := 1) (b := ⟨[.int .i64 0, .int .i64 0, .int .i64 0, .int .i64 2], 28, true, 2⟩) (by kernel_rfl) (by kernel_rfl) (by kernel_rfl) (by kernel_rfl) (by kernel_rfl) (by kernel_rfl) (by kernel_rfl) (by kernel_rfl) (by decide) (by decide) (by decide) (by decide)) (by kernel_rfl)) <|
    .a 1 8 <| .nil _ _) ?_
  refine block_normal ?_
  refine then_normal ?_
  refine al_round ?_
  refine aw_sq 61366 61367 ?_
  refine aw_d 122733 (
    .a 22 8 <| .nil _ _) ?_
  refine aw_w [(0, sV 6 1), (4, .slice none 0 0), (5, .int .i64 0), (7, .pointer (some ⟨7, 0, none⟩)), (10, sV 0 4), (11, .int .i64 4), (12, .int .i64 2), (13, .bool true), (37, .bool false)] [(0, ⟨[.int .i64 0, .int .i64 0, .int .i64 0, .int .i64 2, .int .i64 2, .int .i64 0, .int .i64 2, .int .i64 2], 28, true, 2⟩), (6, ⟨[.int .i64 0, .int .i64 0, .int .i64 0, .int .i64 2], 28, true, 2⟩), (7, ⟨[.int .i64 2, .int .i64 0], 28, true, 2⟩)] ?_
  refine aw_fl 245467 ?_
  refine aw_ex 2 ?_
  refine then_exit ?_
  refine then_exit ?_
  refine block_exit ?_
  refine then_normal ?_
  refine aw_p1 (
    .a 3 8 <| .p (does_ap 9) <| .a 1 10 <| .nil _ _) ?_
  refine block_normal ?_
  refine then_normal ?_
  refine aw_p1 (
    .a 2 10 <| .nil _ _) ?_
  refine then_normal ?_
  refine al_round ?_
  refine aw_p 239 (
    .a 1 10 <| .nil _ _) ?_
  refine aw_sq 478 479 ?_
  refine aw_tr 956 ?_
  refine aw_sk ?_
  refine then_normal ?_
  refine aw_sq 958 959 ?_
  refine aw_bl 1 1917 ?_
  refine aw_p 3835 (
    .a 4 10 <| .nil _ _) ?_
  refine aw_sq 7670 7671 ?_
  refine aw_bl 2 15341 ?_
  refine aw_lp 30683 ?_
  refine al_round ?_
  refine aw_sq 61366 61367 ?_
  refine aw_d 122733 (
    .a 19 11 <| .p (does_c (au_134)) <| .a 2 11 <| .nil _ _) ?_
  refine aw_w [(0, sV 9 2), (4, .slice none 0 0), (5, .int .i64 0), (7, .pointer (some ⟨10, 0, none⟩)), (10, sV 0 4), (11, .int .i64 4), (12, .int .i64 3), (13, .bool true), (37, .bool false)] [(0, ⟨[.int .i64 0, .int .i64 0, .int .i64 0, .int .i64 2, .int .i64 2, .int .i64 0, .int .i64 2, .int .i64 2], 28, true, 2⟩), (9, ⟨[.int .i64 0, .int .i64 0, .int .i64 2, .int .i64 0], 28, true, 2⟩), (10, ⟨[.int .i64 2, .int .i64 2], 28, true, 2⟩)] ?_
  refine aw_fl 245467 ?_
  refine aw_ex 2 ?_
  refine then_exit ?_
  refine then_exit ?_
  refine block_exit ?_
  refine then_normal ?_
  refine aw_p1 (
    .a 3 11 <| .p (does_ap 12) <| .a 1 13 <| .nil _ _) ?_
  refine block_normal ?_
  refine then_normal ?_
  refine aw_p1 (
    .a 2 13 <| .nil _ _) ?_
  refine then_normal ?_
  refine al_round ?_
  refine aw_p 239 (
    .a 1 13 <| .nil _ _) ?_
  refine aw_sq 478 479 ?_
  refine aw_fl 957 ?_
  refine aw_ex 0 ?_
  refine then_exit ?_
  refine then_exit ?_
  refine block_exit ?_
  refine then_normal ?_
  refine aw_p 31 (
    .a 4 13 <|
    .p (does_val (v' := sV 12 2) (does_slice (t := 39) (x := .tmp 48) (lo := none) (hi := some (.tmp 51)) (k := 12) (off := 0) (n := 3) (c := 0) (z := 2) (l := 0) (h := 2) (m := 2) (b := ⟨[.int .i64 0, .int .i64 0, .int .i64 2, .int .i64 0, .int .i64 2, .int .i64 2], 28, true, 2⟩) (by kernel_rfl) (by kernel_rfl) (by kernel_rfl) (by kernel_rfl) (by kernel_rfl) (by kernel_rfl) (by kernel_rfl) (by kernel_rfl) (by decide) (by decide) (by decide) (by decide)) (by kernel_rfl)) <|
    .a 1 13 <| .nil _ _) ?_
  refine aw_r [(1, 12)] [(4, sV 12 2)] [(0, ⟨[.int .i64 0, .int .i64 0, .int .i64 0, .int .i64 2, .int .i64 2, .int .i64 0, .int .i64 2, .int .i64 2], 28, true, 2⟩), (12, ⟨[.int .i64 0, .int .i64 0, .int .i64 2, .int .i64 0, .int .i64 2, .int .i64 2], 28, true, 2⟩)] [(4, sV 1 2)] [(0, ⟨[.int .i64 0, .int .i64 0, .int .i64 0, .int .i64 2, .int .i64 2, .int .i64 0, .int .i64 2, .int .i64 2], 28, true, 2⟩), (1, ⟨[.int .i64 0, .int .i64 0, .int .i64 2, .int .i64 0, .int .i64 2, .int .i64 2], 28, true, 2⟩)] ?_ ⟨rfl, (rK rfl), trivial⟩ ⟨rfl, ⟨rfl, rfl, rfl, (.flats (by kernel_rfl))⟩, rfl, ⟨rfl, rfl, rfl, (.flats (by kernel_rfl))⟩, trivial⟩
  refine aw_rt ?_
  exact en_ret [sV 1 2] (by kernel_rfl)
theorem au_136  :
    AC Tryz.prog 29 1 ([sV 0 4]) [(0, ⟨[.int .i64 0, .int .i64 0, .int .i64 0, .int .i64 2, .int .i64 2, .int .i64 0, .int .i64 2, .int .i64 2], 28, true, 2⟩)] (.tuple #[]) [(0, ⟨[.int .i64 2, .int .i64 2, .int .i64 2, .int .i64 0, .int .i64 0, .int .i64 2, .int .i64 0, .int .i64 0], 28, true, 2⟩)] := by
  refine ac_in Tryz.func29 (fun w0 W pin => ?_)
  refine aw_p 3 (
    .a 5 1 <| .nil _ _) ?_
  refine aw_bl 0 7 ?_
  refine aw_lp 15 ?_
  refine al_round ?_
  refine aw_sq 30 31 ?_
  refine aw_p 61 (
    .a 3 1 <| .nil _ _) ?_
  refine aw_tr 122 ?_
  refine aw_sk ?_
  refine then_normal ?_
  refine aw_sq 62 63 ?_
  refine aw_bl 1 125 ?_
  refine aw_d1 (
    .a 16 1 <| .nil _ _) ?_
  refine block_normal ?_
  refine then_normal ?_
  refine aw_p1 (
    .a 6 1 <| .nil _ _) ?_
  refine then_normal ?_
  refine al_round ?_
  refine aw_sq 30 31 ?_
  refine aw_p 61 (
    .a 3 1 <| .nil _ _) ?_
  refine aw_w [(0, sV 0 4), (2, .int .i64 1), (3, .int .i64 2), (9, .bool true)] [(0, ⟨[.int .i64 2, .int .i64 2, .int .i64 0, .int .i64 2, .int .i64 2, .int .i64 0, .int .i64 0, .int .i64 0], 28, true, 2⟩)] ?_
  refine aw_tr 122 ?_
  refine aw_sk ?_
  refine then_normal ?_
  refine aw_sq 62 63 ?_
  refine aw_bl 1 125 ?_
  refine aw_d1 (
    .a 16 1 <| .nil _ _) ?_
  refine block_normal ?_
  refine then_normal ?_
  refine aw_p1 (
    .a 6 1 <| .nil _ _) ?_
  refine then_normal ?_
  refine al_round ?_
  refine aw_sq 30 31 ?_
  refine aw_p 61 (
    .a 3 1 <| .nil _ _) ?_
  refine aw_w [(0, sV 0 4), (2, .int .i64 2), (3, .int .i64 1), (9, .bool false)] [(0, ⟨[.int .i64 2, .int .i64 2, .int .i64 2, .int .i64 0, .int .i64 0, .int .i64 2, .int .i64 0, .int .i64 0], 28, true, 2⟩)] ?_
  refine aw_fl 123 ?_
  refine aw_ex 0 ?_
  refine then_exit ?_
  refine then_exit ?_
  refine block_exit ?_
  exact en_normal [] (by kernel_rfl)
theorem au_137  :
    AC Tryz.prog 67 0 ([.agg #[.int .i64 2, .int .i64 2], .agg #[.int .i64 2, .int .i64 0]]) [] (.agg #[.int .i64 0, .int .i64 (-2)]) [] := by
  refine ac_in Tryz.func67 (fun w0 W pin => ?_)
  refine aw_p 3 (
    .a 3 1 <| .nil _ _) ?_
  refine aw_d 7 (
    .a 1 4 <| .p (does_c (au_79)) <| .a 1 4 <| .p (does_c (au_77)) <| .a 2 4 <| .nil _ _) ?_
  refine aw_p 15 (
    .a 12 4 <| .nil _ _) ?_
  refine aw_rt ?_
  exact en_ret [.agg #[.int .i64 0, .int .i64 (-2)]] (by kernel_rfl)
theorem au_138  :
    AC Tryz.prog 38 0 ([.agg #[.int .i64 2, .int .i64 2], .agg #[.int .i64 2, .int .i64 0], .agg #[.int .i64 0, .int .i64 2]]) [] (.int .i64 (-4)) [] := by
  refine ac_in Tryz.func38 (fun w0 W pin => ?_)
  refine aw_p 3 (
    .a 4 1 <| .nil _ _) ?_
  refine aw_d 7 (
    .a 2 4 <| .p (does_c (au_137)) <| .a 2 4 <| .p (does_c (au_96)) <| .a 4 4 <| .nil _ _) ?_
  refine aw_p 15 (
    .a 12 6 <| .nil _ _) ?_
  refine aw_w [(6, .int .i64 (-4))] [] ?_
  refine aw_rt ?_
  exact en_ret [.int .i64 (-4)] (by kernel_rfl)
theorem au_139  :
    AC Tryz.prog 40 0 ([.agg #[.int .i64 2, .int .i64 2], .agg #[.int .i64 2, .int .i64 0], .agg #[.int .i64 0, .int .i64 2]]) [] (.int .i64 (-1)) [] := by
  refine ac_in Tryz.func40 (fun w0 W pin => ?_)
  refine aw_p 3 (
    .a 4 1 <| .nil _ _) ?_
  refine aw_p 7 (
    .a 3 4 <| .p (does_c (au_138)) <| .p (does_c (au_130)) <| .a 1 4 <| .nil _ _) ?_
  refine aw_rt ?_
  exact en_ret [.int .i64 (-1)] (by kernel_rfl)
theorem au_140  :
    AC Tryz.prog 67 0 ([.agg #[.int .i64 2, .int .i64 2], .agg #[.int .i64 0, .int .i64 0]]) [] (.agg #[.int .i64 (-2), .int .i64 (-2)]) [] := by
  refine ac_in Tryz.func67 (fun w0 W pin => ?_)
  refine aw_p 3 (
    .a 3 1 <| .nil _ _) ?_
  refine aw_d 7 (
    .a 1 4 <| .p (does_c (au_79)) <| .a 1 4 <| .p (does_c (au_9)) <| .a 2 4 <| .nil _ _) ?_
  refine aw_p 15 (
    .a 12 4 <| .nil _ _) ?_
  refine aw_rt ?_
  exact en_ret [.agg #[.int .i64 (-2), .int .i64 (-2)]] (by kernel_rfl)
theorem au_141  :
    AC Tryz.prog 38 0 ([.agg #[.int .i64 2, .int .i64 2], .agg #[.int .i64 0, .int .i64 2], .agg #[.int .i64 0, .int .i64 0]]) [] (.int .i64 4) [] := by
  refine ac_in Tryz.func38 (fun w0 W pin => ?_)
  refine aw_p 3 (
    .a 4 1 <| .nil _ _) ?_
  refine aw_d 7 (
    .a 2 4 <| .p (does_c (au_96)) <| .a 2 4 <| .p (does_c (au_140)) <| .a 4 4 <| .nil _ _) ?_
  refine aw_p 15 (
    .a 12 6 <| .nil _ _) ?_
  refine aw_w [(6, .int .i64 4)] [] ?_
  refine aw_rt ?_
  exact en_ret [.int .i64 4] (by kernel_rfl)
theorem au_142  :
    AC Tryz.prog 40 0 ([.agg #[.int .i64 2, .int .i64 2], .agg #[.int .i64 0, .int .i64 2], .agg #[.int .i64 0, .int .i64 0]]) [] (.int .i64 1) [] := by
  refine ac_in Tryz.func40 (fun w0 W pin => ?_)
  refine aw_p 3 (
    .a 4 1 <| .nil _ _) ?_
  refine aw_p 7 (
    .a 3 4 <| .p (does_c (au_141)) <| .p (does_c (au_133)) <| .a 1 4 <| .nil _ _) ?_
  refine aw_rt ?_
  exact en_ret [.int .i64 1] (by kernel_rfl)
theorem au_143  :
    AC Tryz.prog 48 2 ([sV 0 2, sV 1 4]) [(0, ⟨[.int .i64 0, .int .i64 0, .int .i64 2, .int .i64 0, .int .i64 2, .int .i64 2], 28, true, 2⟩), (1, ⟨[.int .i64 2, .int .i64 2, .int .i64 2, .int .i64 0, .int .i64 0, .int .i64 2, .int .i64 0, .int .i64 0], 28, true, 2⟩)] (sV 2 4) [(1, ⟨[.int .i64 2, .int .i64 2, .int .i64 2, .int .i64 0, .int .i64 0, .int .i64 2, .int .i64 0, .int .i64 0], 28, true, 2⟩), (2, ⟨[.int .i64 0, .int .i64 0, .int .i64 2, .int .i64 0, .int .i64 2, .int .i64 2, .int .i64 0, .int .i64 2, .int .i64 0, .int .i64 0], 28, true, 2⟩)] := by
  refine ac_in Tryz.func48 (fun w0 W pin => ?_)
  refine aw_p 3 (
    .a 1 2 <| .nil _ _) ?_
  refine aw_p 7 (
    .a 3 2 <| .nil _ _) ?_
  refine aw_sq 14 15 ?_
  refine aw_p 29 (
    .a 3 2 <| .nil _ _) ?_
  refine aw_bl 0 59 ?_
  refine aw_lp 119 ?_
  refine al_round ?_
  refine aw_p 239 (
    .a 1 2 <| .nil _ _) ?_
  refine aw_sq 478 479 ?_
  refine aw_tr 956 ?_
  refine aw_sk ?_
  refine then_normal ?_
  refine aw_sq 958 959 ?_
  refine aw_bl 1 1917 ?_
  refine aw_p 3835 (
    .a 4 2 <| .nil _ _) ?_
  refine aw_sq 7670 7671 ?_
  refine aw_bl 2 15341 ?_
  refine aw_lp 30683 ?_
  refine al_round ?_
  refine aw_sq 61366 61367 ?_
  refine aw_d 122733 (
    .a 22 3 <| .nil _ _) ?_
  refine aw_w [(0, sV 0 2), (4, .slice none 0 0), (5, .int .i64 2), (7, .pointer (some ⟨2, 0, none⟩)), (10, sV 1 4), (11, .int .i64 4), (12, .int .i64 0), (13, .bool true), (37, .bool false)] [(0, ⟨[.int .i64 0, .int .i64 0, .int .i64 2, .int .i64 0, .int .i64 2, .int .i64 2], 28, true, 2⟩), (1, ⟨[.int .i64 2, .int .i64 2, .int .i64 2, .int .i64 0, .int .i64 0, .int .i64 2, .int .i64 0, .int .i64 0], 28, true, 2⟩), (2, ⟨[.int .i64 2, .int .i64 2], 28, true, 2⟩)] ?_
  refine aw_fl 245467 ?_
  refine aw_ex 2 ?_
  refine then_exit ?_
  refine then_exit ?_
  refine block_exit ?_
  refine then_normal ?_
  refine aw_p1 (
    .a 3 3 <| .p (does_ap 4) <| .a 1 5 <| .nil _ _) ?_
  refine block_normal ?_
  refine then_normal ?_
  refine aw_p1 (
    .a 2 5 <| .nil _ _) ?_
  refine then_normal ?_
  refine al_round ?_
  refine aw_p 239 (
    .a 1 5 <| .nil _ _) ?_
  refine aw_sq 478 479 ?_
  refine aw_tr 956 ?_
  refine aw_sk ?_
  refine then_normal ?_
  refine aw_sq 958 959 ?_
  refine aw_bl 1 1917 ?_
  refine aw_p 3835 (
    .a 4 5 <| .nil _ _) ?_
  refine aw_sq 7670 7671 ?_
  refine aw_bl 2 15341 ?_
  refine aw_lp 30683 ?_
  refine al_round ?_
  refine aw_sq 61366 61367 ?_
  refine aw_d 122733 (
    .a 22 6 <| .nil _ _) ?_
  refine aw_w [(0, sV 4 3), (4, .slice none 0 0), (5, .int .i64 2), (7, .pointer (some ⟨5, 0, none⟩)), (10, sV 1 4), (11, .int .i64 4), (12, .int .i64 1), (13, .bool true), (37, .bool false)] [(1, ⟨[.int .i64 2, .int .i64 2, .int .i64 2, .int .i64 0, .int .i64 0, .int .i64 2, .int .i64 0, .int .i64 0], 28, true, 2⟩), (4, ⟨[.int .i64 0, .int .i64 0, .int .i64 2, .int .i64 0, .int .i64 2, .int .i64 2], 28, true, 2⟩), (5, ⟨[.int .i64 2, .int .i64 0], 28, true, 2⟩)] ?_
  refine aw_fl 245467 ?_
  refine aw_ex 2 ?_
  refine then_exit ?_
  refine then_exit ?_
  refine block_exit ?_
  refine then_normal ?_
  refine aw_p1 (
    .a 3 6 <| .p (does_ap 7) <| .a 1 8 <| .nil _ _) ?_
  refine block_normal ?_
  refine then_normal ?_
  refine aw_p1 (
    .a 2 8 <| .nil _ _) ?_
  refine then_normal ?_
  refine al_round ?_
  refine aw_p 239 (
    .a 1 8 <| .nil _ _) ?_
  refine aw_sq 478 479 ?_
  refine aw_tr 956 ?_
  refine aw_sk ?_
  refine then_normal ?_
  refine aw_sq 958 959 ?_
  refine aw_bl 1 1917 ?_
  refine aw_p 3835 (
    .a 4 8 <| .nil _ _) ?_
  refine aw_sq 7670 7671 ?_
  refine aw_bl 2 15341 ?_
  refine aw_lp 30683 ?_
  refine al_round ?_
  refine aw_sq 61366 61367 ?_
  refine aw_d 122733 (
    .a 19 9 <| .p (does_c (au_139)) <| .a 2 9 <| .nil _ _) ?_
  refine aw_w [(0, sV 7 4), (4, .slice none 0 0), (5, .int .i64 2), (7, .pointer (some ⟨8, 0, none⟩)), (10, sV 1 4), (11, .int .i64 4), (12, .int .i64 2), (13, .bool true), (37, .bool true)] [(1, ⟨[.int .i64 2, .int .i64 2, .int .i64 2, .int .i64 0, .int .i64 0, .int .i64 2, .int .i64 0, .int .i64 0], 28, true, 2⟩), (7, ⟨[.int .i64 0, .int .i64 0, .int .i64 2, .int .i64 0, .int .i64 2, .int .i64 2, .int .i64 2, .int .i64 0], 28, true, 2⟩), (8, ⟨[.int .i64 0, .int .i64 2], 28, true, 2⟩)] ?_
  refine aw_tr 245466 ?_
  refine aw_sk ?_
  refine then_normal ?_
  refine aw_bl 3 122735 ?_
  refine aw_p1 (
    .a 4 9 <|
    .p (does_val (v' := sV 7 3) (does_slice (t := 39) (x := .tmp 38) (lo := none) (hi := some (.tmp 41)) (k := 7) (off := 0) (n := 4) (c := 0) (z := 2) (l := 0) (h := 3) (m := 3) (b := ⟨[.int .i64 0, .int .i64 0, .int .i64 2, .int .i64 0, .int .i64 2, .int .i64 2, .int .i64 2, .int .i64 0], 28, true, 2⟩) (by kernel_rfl) (by kernel_rfl) (by kernel_rfl) (by kernel_rfl) (by kernel_rfl) (by kernel_rfl) (by kernel_rfl) (by kernel_rfl) (by decide) (by decide) (by decide) (by decide)) (by kernel_rfl)) <|
    .a 1 9 <| .nil _ _) ?_
  refine block_normal ?_
  refine then_normal ?_
  refine al_round ?_
  refine aw_sq 61366 61367 ?_
  refine aw_d 122733 (
    .a 22 9 <| .nil _ _) ?_
  refine aw_w [(0, sV 7 3), (4, .slice none 0 0), (5, .int .i64 2), (7, .pointer (some ⟨8, 0, none⟩)), (10, sV 1 4), (11, .int .i64 4), (12, .int .i64 2), (13, .bool true), (37, .bool false)] [(1, ⟨[.int .i64 2, .int .i64 2, .int .i64 2, .int .i64 0, .int .i64 0, .int .i64 2, .int .i64 0, .int .i64 0], 28, true, 2⟩), (7, ⟨[.int .i64 0, .int .i64 0, .int .i64 2, .int .i64 0, .int .i64 2, .int .i64 2, .int .i64 2, .int .i64 0], 28, true, 2⟩), (8, ⟨[.int .i64 0, .int .i64 2], 28, true, 2⟩)] ?_
  refine aw_fl 245467 ?_
  refine aw_ex 2 ?_
  refine then_exit ?_
  refine then_exit ?_
  refine block_exit ?_
  refine then_normal ?_
  refine aw_p1 (
    .a 3 9 <| .p (does_ap 10) <| .a 1 11 <| .nil _ _) ?_
  refine block_normal ?_
  refine then_normal ?_
  refine aw_p1 (
    .a 2 11 <| .nil _ _) ?_
  refine then_normal ?_
  refine al_round ?_
  refine aw_p 239 (
    .a 1 11 <| .nil _ _) ?_
  refine aw_sq 478 479 ?_
  refine aw_tr 956 ?_
  refine aw_sk ?_
  refine then_normal ?_
  refine aw_sq 958 959 ?_
  refine aw_bl 1 1917 ?_
  refine aw_p 3835 (
    .a 4 11 <| .nil _ _) ?_
  refine aw_sq 7670 7671 ?_
  refine aw_bl 2 15341 ?_
  refine aw_lp 30683 ?_
  refine al_round ?_
  refine aw_sq 61366 61367 ?_
  refine aw_d 122733 (
    .a 19 12 <| .p (does_c (au_142)) <| .a 2 12 <| .nil _ _) ?_
  refine aw_w [(0, sV 10 4), (4, .slice none 0 0), (5, .int .i64 2), (7, .pointer (some ⟨11, 0, none⟩)), (10, sV 1 4), (11, .int .i64 4), (12, .int .i64 3), (13, .bool true), (37, .bool false)] [(1, ⟨[.int .i64 2, .int .i64 2, .int .i64 2, .int .i64 0, .int .i64 0, .int .i64 2, .int .i64 0, .int .i64 0], 28, true, 2⟩), (10, ⟨[.int .i64 0, .int .i64 0, .int .i64 2, .int .i64 0, .int .i64 2, .int .i64 2, .int .i64 0, .int .i64 2], 28, true, 2⟩), (11, ⟨[.int .i64 0, .int .i64 0], 28, true, 2⟩)] ?_
  refine aw_fl 245467 ?_
  refine aw_ex 2 ?_
  refine then_exit ?_
  refine then_exit ?_
  refine block_exit ?_
  refine then_normal ?_
  refine aw_p1 (
    .a 3 12 <| .p (does_ap 13) <| .a 1 14 <| .nil _ _) ?_
  refine block_normal ?_
  refine then_normal ?_
  refine aw_p1 (
    .a 2 14 <| .nil _ _) ?_
  refine then_normal ?_
  refine al_round ?_
  refine aw_p 239 (
    .a 1 14 <| .nil _ _) ?_
  refine aw_sq 478 479 ?_
  refine aw_fl 957 ?_
  refine aw_ex 0 ?_
  refine then_exit ?_
  refine then_exit ?_
  refine block_exit ?_
  refine then_normal ?_
  refine aw_p 31 (
    .a 4 14 <|
    .p (does_val (v' := sV 13 4) (does_slice (t := 39) (x := .tmp 48) (lo := none) (hi := some (.tmp 51)) (k := 13) (off := 0) (n := 5) (c := 0) (z := 2) (l := 0) (h := 4) (m := 4) (b := ⟨[.int .i64 0, .int .i64 0, .int .i64 2, .int .i64 0, .int .i64 2, .int .i64 2, .int .i64 0, .int .i64 2, .int .i64 0, .int .i64 0], 28, true, 2⟩) (by kernel_rfl) (by kernel_rfl) (by kernel_rfl) (by kernel_rfl) (by kernel_rfl) (by kernel_rfl) (by kernel_rfl) (by kernel_rfl) (by decide) (by decide) (by decide) (by decide)) (by kernel_rfl)) <|
    .a 1 14 <| .nil _ _) ?_
  refine aw_r [(2, 13)] [(4, sV 13 4)] [(1, ⟨[.int .i64 2, .int .i64 2, .int .i64 2, .int .i64 0, .int .i64 0, .int .i64 2, .int .i64 0, .int .i64 0], 28, true, 2⟩), (13, ⟨[.int .i64 0, .int .i64 0, .int .i64 2, .int .i64 0, .int .i64 2, .int .i64 2, .int .i64 0, .int .i64 2, .int .i64 0, .int .i64 0], 28, true, 2⟩)] [(4, sV 2 4)] [(1, ⟨[.int .i64 2, .int .i64 2, .int .i64 2, .int .i64 0, .int .i64 0, .int .i64 2, .int .i64 0, .int .i64 0], 28, true, 2⟩), (2, ⟨[.int .i64 0, .int .i64 0, .int .i64 2, .int .i64 0, .int .i64 2, .int .i64 2, .int .i64 0, .int .i64 2, .int .i64 0, .int .i64 0], 28, true, 2⟩)] ?_ ⟨rfl, (rK rfl), trivial⟩ ⟨rfl, ⟨rfl, rfl, rfl, (.flats (by kernel_rfl))⟩, rfl, ⟨rfl, rfl, rfl, (.flats (by kernel_rfl))⟩, trivial⟩
  refine aw_rt ?_
  exact en_ret [sV 2 4] (by kernel_rfl)
theorem au_144  :
    AC Tryz.prog 20 1 ([sV 0 4]) [(0, ⟨[.int .i64 0, .int .i64 0, .int .i64 2, .int .i64 0, .int .i64 2, .int .i64 2, .int .i64 0, .int .i64 2], 28, true, 2⟩)] (sV 1 4) [(0, ⟨[.int .i64 0, .int .i64 0, .int .i64 2, .int .i64 0, .int .i64 2, .int .i64 2, .int .i64 0, .int .i64 2], 28, true, 2⟩), (1, ⟨[.int .i64 0, .int .i64 0, .int .i64 2, .int .i64 0, .int .i64 2, .int .i64 2, .int .i64 0, .int .i64 2, .int .i64 0, .int .i64 0], 28, true, 2⟩)] := by
  refine ac_in Tryz.func20 (fun w0 W pin => ?_)
  refine aw_p 3 (
    .a 1 1 <| .nil _ _) ?_
  refine aw_p 7 (
    .a 2 1 <| .p (does_mk (kl := .i64) (kc := .i64) (n' := 0) (c' := 4) 1 28 2 16 0 4 (.agg #[.int .i64 0, .int .i64 0]) [] (by kernel_rfl) (by kernel_rfl) (by kernel_rfl) (by kernel_rfl) (by decide) (by decide) (by decide) (by decide) (by decide)) <| .a 1 2 <| .nil _ _) ?_
  refine aw_sq 14 15 ?_
  refine aw_p 29 (
    .a 3 2 <| .nil _ _) ?_
  refine aw_bl 0 59 ?_
  refine aw_lp 119 ?_
  refine al_round ?_
  refine aw_p 239 (
    .a 1 2 <| .nil _ _) ?_
  refine aw_sq 478 479 ?_
  refine aw_tr 956 ?_
  refine aw_sk ?_
  refine then_normal ?_
  refine aw_sq 958 959 ?_
  refine aw_bl 1 1917 ?_
  refine aw_p 3835 (
    .a 4 2 <| .nil _ _) ?_
  refine aw_p1 (
    .a 2 3 <| .p (does_c (au_9)) <| .a 1 3 <| .p (does_ap 4) <| .a 1 5 <| .nil _ _) ?_
  refine block_normal ?_
  refine then_normal ?_
  refine aw_p1 (
    .a 2 5 <| .nil _ _) ?_
  refine then_normal ?_
  refine al_round ?_
  refine aw_p 239 (
    .a 1 5 <| .nil _ _) ?_
  refine aw_sq 478 479 ?_
  refine aw_tr 956 ?_
  refine aw_sk ?_
  refine then_normal ?_
  refine aw_sq 958 959 ?_
  refine aw_bl 1 1917 ?_
  refine aw_p 3835 (
    .a 4 5 <| .nil _ _) ?_
  refine aw_w [(2, .slice none 0 0), (3, sV 4 1), (5, .pointer (some ⟨5, 0, none⟩)), (10, sV 0 4), (11, .int .i64 4), (12, .int .i64 1), (13, .bool true)] [(0, ⟨[.int .i64 0, .int .i64 0, .int .i64 2, .int .i64 0, .int .i64 2, .int .i64 2, .int .i64 0, .int .i64 2], 28, true, 2⟩), (4, ⟨[.int .i64 0, .int .i64 0], 28, true, 2⟩), (5, ⟨[.int .i64 2, .int .i64 0], 28, true, 2⟩)] ?_
  refine aw_p1 (
    .a 2 6 <| .p (does_c (au_77)) <| .a 1 6 <| .p (does_ap 7) <| .a 1 8 <| .nil _ _) ?_
  refine block_normal ?_
  refine then_normal ?_
  refine aw_p1 (
    .a 2 8 <| .nil _ _) ?_
  refine then_normal ?_
  refine al_round ?_
  refine aw_p 239 (
    .a 1 8 <| .nil _ _) ?_
  refine aw_sq 478 479 ?_
  refine aw_tr 956 ?_
  refine aw_sk ?_
  refine then_normal ?_
  refine aw_sq 958 959 ?_
  refine aw_bl 1 1917 ?_
  refine aw_p 3835 (
    .a 4 8 <| .nil _ _) ?_
  refine aw_p1 (
    .a 2 9 <| .p (does_c (au_79)) <| .a 1 9 <| .p (does_ap 10) <| .a 1 11 <| .nil _ _) ?_
  refine block_normal ?_
  refine then_normal ?_
  refine aw_p1 (
    .a 2 11 <| .nil _ _) ?_
  refine then_normal ?_
  refine al_round ?_
  refine aw_p 239 (
    .a 1 11 <| .nil _ _) ?_
  refine aw_sq 478 479 ?_
  refine aw_tr 956 ?_
  refine aw_sk ?_
  refine then_normal ?_
  refine aw_sq 958 959 ?_
  refine aw_bl 1 1917 ?_
  refine aw_p 3835 (
    .a 4 11 <| .nil _ _) ?_
  refine aw_w [(2, .slice none 0 0), (3, sV 10 3), (5, .pointer (some ⟨11, 0, none⟩)), (10, sV 0 4), (11, .int .i64 4), (12, .int .i64 3), (13, .bool true)] [(0, ⟨[.int .i64 0, .int .i64 0, .int .i64 2, .int .i64 0, .int .i64 2, .int .i64 2, .int .i64 0, .int .i64 2], 28, true, 2⟩), (10, ⟨[.int .i64 0, .int .i64 0, .int .i64 2, .int .i64 0, .int .i64 2, .int .i64 2], 28, true, 2⟩), (11, ⟨[.int .i64 0, .int .i64 2], 28, true, 2⟩)] ?_
  refine aw_p1 (
    .a 2 12 <| .p (does_c (au_82)) <| .a 1 12 <| .p (does_ap 13) <| .a 1 14 <| .nil _ _) ?_
  refine block_normal ?_
  refine then_normal ?_
  refine aw_p1 (
    .a 2 14 <| .nil _ _) ?_
  refine then_normal ?_
  refine al_round ?_
  refine aw_p 239 (
    .a 1 14 <| .nil _ _) ?_
  refine aw_sq 478 479 ?_
  refine aw_fl 957 ?_
  refine aw_ex 0 ?_
  refine then_exit ?_
  refine then_exit ?_
  refine block_exit ?_
  refine then_normal ?_
  refine aw_p 31 (
    .a 1 14 <| .p (does_k [13] (au_126)) <| .nil _ _) ?_
  refine aw_p 63 (
    .a 1 14 <| .p (does_k [13] (au_127)) <| .a 1 14 <| .nil _ _) ?_
  refine aw_sq 126 127 ?_
  refine aw_p 253 (
    .a 3 14 <| .nil _ _) ?_
  refine aw_fl 507 ?_
  refine aw_sk ?_
  refine then_normal ?_
  refine aw_p 255 (
    .a 1 14 <| .p (does_k [13, 14] (au_135)) <| .a 1 15 <| .nil _ _) ?_
  refine aw_p 511 (
    .a 1 15 <| .p (does_k [13] (au_136)) <| .nil _ _) ?_
  refine aw_p 1023 (
    .a 2 15 <| .p (does_k [14, 13, 15] (au_143)) <| .a 1 16 <| .nil _ _) ?_
  refine aw_w [(2, sV 15 4)] [(0, ⟨[.int .i64 0, .int .i64 0, .int .i64 2, .int .i64 0, .int .i64 2, .int .i64 2, .int .i64 0, .int .i64 2], 28, true, 2⟩), (15, ⟨[.int .i64 0, .int .i64 0, .int .i64 2, .int .i64 0, .int .i64 2, .int .i64 2, .int .i64 0, .int .i64 2, .int .i64 0, .int .i64 0], 28, true, 2⟩)] ?_
  refine aw_r [(1, 15)] [(2, sV 15 4)] [(0, ⟨[.int .i64 0, .int .i64 0, .int .i64 2, .int .i64 0, .int .i64 2, .int .i64 2, .int .i64 0, .int .i64 2], 28, true, 2⟩), (15, ⟨[.int .i64 0, .int .i64 0, .int .i64 2, .int .i64 0, .int .i64 2, .int .i64 2, .int .i64 0, .int .i64 2, .int .i64 0, .int .i64 0], 28, true, 2⟩)] [(2, sV 1 4)] [(0, ⟨[.int .i64 0, .int .i64 0, .int .i64 2, .int .i64 0, .int .i64 2, .int .i64 2, .int .i64 0, .int .i64 2], 28, true, 2⟩), (1, ⟨[.int .i64 0, .int .i64 0, .int .i64 2, .int .i64 0, .int .i64 2, .int .i64 2, .int .i64 0, .int .i64 2, .int .i64 0, .int .i64 0], 28, true, 2⟩)] ?_ ⟨rfl, (rK rfl), trivial⟩ ⟨rfl, ⟨rfl, rfl, rfl, (.flats (by kernel_rfl))⟩, rfl, ⟨rfl, rfl, rfl, (.flats (by kernel_rfl))⟩, trivial⟩
  refine aw_rt ?_
  exact en_ret [sV 1 4] (by kernel_rfl)
theorem au_145  :
    AC Tryz.prog 16 0 ([.int .i64 5, .int .i64 1]) [] (.agg #[.int .i64 5, .int .i64 1]) [] := by
  refine ac_in Tryz.func16 (fun w0 W pin => ?_)
  refine aw_p 3 (
    .a 1 1 <| .nil _ _) ?_
  refine aw_p 7 (
    .a 4 2 <| .nil _ _) ?_
  refine aw_rt ?_
  exact en_ret [.agg #[.int .i64 5, .int .i64 1]] (by kernel_rfl)
theorem au_146  :
    AC Tryz.prog 16 0 ([.int .i64 10, .int .i64 0]) [] (.agg #[.int .i64 10, .int .i64 0]) [] := by
  refine ac_in Tryz.func16 (fun w0 W pin => ?_)
  refine aw_p 3 (
    .a 1 1 <| .nil _ _) ?_
  refine aw_p 7 (
    .a 4 2 <| .nil _ _) ?_
  refine aw_rt ?_
  exact en_ret [.agg #[.int .i64 10, .int .i64 0]] (by kernel_rfl)
theorem au_147  :
    AC Tryz.prog 66 0 ([.int .i64 5, .int .i64 1048576]) [] (.int .i64 5) [] := by
  refine ac_in Tryz.func66 (fun w0 W pin => ?_)
  refine aw_p 3 (
    .a 1 1 <| .nil _ _) ?_
  refine aw_p 7 (
    .a 7 1 <| .nil _ _) ?_
  refine aw_rt ?_
  exact en_ret [.int .i64 5] (by kernel_rfl)
theorem au_148  :
    AC Tryz.prog 37 0 ([.agg #[.int .i64 5, .int .i64 1]]) [] (.agg #[.int .i64 5, .int .i64 1]) [] := by
  refine ac_in Tryz.func37 (fun w0 W pin => ?_)
  refine aw_p 3 (
    .a 2 1 <| .nil _ _) ?_
  refine aw_d 7 (
    .a 2 3 <| .p (does_c (au_147)) <| .a 2 3 <| .p (does_c (au_10)) <| .a 2 3 <| .nil _ _) ?_
  refine aw_rt ?_
  exact en_ret [.agg #[.int .i64 5, .int .i64 1]] (by kernel_rfl)
theorem au_149  :
    AC Tryz.prog 66 0 ([.int .i64 10, .int .i64 1048576]) [] (.int .i64 10) [] := by
  refine ac_in Tryz.func66 (fun w0 W pin => ?_)
  refine aw_p 3 (
    .a 1 1 <| .nil _ _) ?_
  refine aw_p 7 (
    .a 7 1 <| .nil _ _) ?_
  refine aw_rt ?_
  exact en_ret [.int .i64 10] (by kernel_rfl)
theorem au_150  :
    AC Tryz.prog 37 0 ([.agg #[.int .i64 10, .int .i64 0]]) [] (.agg #[.int .i64 10, .int .i64 0]) [] := by
  refine ac_in Tryz.func37 (fun w0 W pin => ?_)
  refine aw_p 3 (
    .a 2 1 <| .nil _ _) ?_
  refine aw_d 7 (
    .a 2 3 <| .p (does_c (au_149)) <| .a 2 3 <| .p (does_c (au_8)) <| .a 2 3 <| .nil _ _) ?_
  refine aw_rt ?_
  exact en_ret [.agg #[.int .i64 10, .int .i64 0]] (by kernel_rfl)
theorem au_151  :
    AC Tryz.prog 67 0 ([.agg #[.int .i64 0, .int .i64 0], .agg #[.int .i64 10, .int .i64 0]]) [] (.agg #[.int .i64 10, .int .i64 0]) [] := by
  refine ac_in Tryz.func67 (fun w0 W pin => ?_)
  refine aw_p 3 (
    .a 3 1 <| .nil _ _) ?_
  refine aw_d 7 (
    .a 1 4 <| .p (does_c (au_9)) <| .a 1 4 <| .p (does_c (au_150)) <| .a 2 4 <| .nil _ _) ?_
  refine aw_p 15 (
    .a 12 4 <| .nil _ _) ?_
  refine aw_rt ?_
  exact en_ret [.agg #[.int .i64 10, .int .i64 0]] (by kernel_rfl)
theorem au_152  :
    AC Tryz.prog 68 0 ([.agg #[.int .i64 0, .int .i64 0], .agg #[.int .i64 10, .int .i64 0], .agg #[.int .i64 10, .int .i64 0]]) [] (.int .i64 100) [] := by
  refine ac_in Tryz.func68 (fun w0 W pin => ?_)
  refine aw_p 3 (
    .a 4 1 <| .nil _ _) ?_
  refine aw_d 7 (
    .a 2 4 <| .p (does_c (au_151)) <| .a 2 4 <| .p (does_c (au_151)) <| .a 4 4 <| .nil _ _) ?_
  refine aw_p 15 (
    .a 12 6 <| .nil _ _) ?_
  refine aw_w [(6, .int .i64 100)] [] ?_
  refine aw_rt ?_
  exact en_ret [.int .i64 100] (by kernel_rfl)
theorem au_153  :
    AC Tryz.prog 108 0 ([.agg #[.int .i64 0, .int .i64 0], .agg #[.int .i64 10, .int .i64 0]]) [] (.int .i64 100) [] := by
  refine ac_in Tryz.func108 (fun w0 W pin => ?_)
  refine aw_p 3 (
    .a 3 1 <| .nil _ _) ?_
  refine aw_p 7 (
    .a 3 3 <| .p (does_c (au_152)) <| .a 1 3 <| .nil _ _) ?_
  refine aw_rt ?_
  exact en_ret [.int .i64 100] (by kernel_rfl)
theorem au_154  :
    AC Tryz.prog 67 0 ([.agg #[.int .i64 0, .int .i64 0], .agg #[.int .i64 5, .int .i64 1]]) [] (.agg #[.int .i64 5, .int .i64 1]) [] := by
  refine ac_in Tryz.func67 (fun w0 W pin => ?_)
  refine aw_p 3 (
    .a 3 1 <| .nil _ _) ?_
  refine aw_d 7 (
    .a 1 4 <| .p (does_c (au_9)) <| .a 1 4 <| .p (does_c (au_148)) <| .a 2 4 <| .nil _ _) ?_
  refine aw_p 15 (
    .a 12 4 <| .nil _ _) ?_
  refine aw_rt ?_
  exact en_ret [.agg #[.int .i64 5, .int .i64 1]] (by kernel_rfl)
theorem au_155  :
    AC Tryz.prog 68 0 ([.agg #[.int .i64 0, .int .i64 0], .agg #[.int .i64 10, .int .i64 0], .agg #[.int .i64 5, .int .i64 1]]) [] (.int .i64 50) [] := by
  refine ac_in Tryz.func68 (fun w0 W pin => ?_)
  refine aw_p 3 (
    .a 4 1 <| .nil _ _) ?_
  refine aw_d 7 (
    .a 2 4 <| .p (does_c (au_151)) <| .a 2 4 <| .p (does_c (au_154)) <| .a 4 4 <| .nil _ _) ?_
  refine aw_p 15 (
    .a 12 6 <| .nil _ _) ?_
  refine aw_w [(6, .int .i64 50)] [] ?_
  refine aw_rt ?_
  exact en_ret [.int .i64 50] (by kernel_rfl)
theorem au_156  :
    AC Tryz.prog 38 0 ([.agg #[.int .i64 0, .int .i64 0], .agg #[.int .i64 10, .int .i64 0], .agg #[.int .i64 5, .int .i64 1]]) [] (.int .i64 10) [] := by
  refine ac_in Tryz.func38 (fun w0 W pin => ?_)
  refine aw_p 3 (
    .a 4 1 <| .nil _ _) ?_
  refine aw_d 7 (
    .a 2 4 <| .p (does_c (au_151)) <| .a 2 4 <| .p (does_c (au_154)) <| .a 4 4 <| .nil _ _) ?_
  refine aw_p 15 (
    .a 12 6 <| .nil _ _) ?_
  refine aw_w [(6, .int .i64 10)] [] ?_
  refine aw_rt ?_
  exact en_ret [.int .i64 10] (by kernel_rfl)
theorem au_157  :
    AC Tryz.prog 45 0 ([.int .u64 10, .int .u64 10]) [] (.tuple #[.int .u64 0, .int .u64 100]) [] := by
  refine ac_in Tryz.func45 (fun w0 W pin => ?_)
  refine aw_p 3 (
    .a 2 1 <| .nil _ _) ?_
  refine aw_p 7 (
    .a 3 1 <| .nil _ _) ?_
  refine aw_p 15 (
    .a 3 1 <| .nil _ _) ?_
  refine aw_p 31 (
    .a 3 1 <| .nil _ _) ?_
  refine aw_p 63 (
    .a 3 1 <| .nil _ _) ?_
  refine aw_p 127 (
    .a 4 1 <| .nil _ _) ?_
  refine aw_p 255 (
    .a 7 1 <| .nil _ _) ?_
  refine aw_w [(0, .int .u64 10), (1, .int .u64 10), (4, .int .u64 0), (5, .int .u64 0), (6, .int .u64 10), (7, .int .u64 0), (9, .int .u64 0), (11, .int .u64 0)] [] ?_
  refine aw_p 511 (
    .a 3 1 <| .nil _ _) ?_
  refine aw_p 1023 (
    .a 3 1 <| .nil _ _) ?_
  refine aw_p 2047 (
    .a 6 1 <| .nil _ _) ?_
  refine aw_p 4095 (
    .a 9 1 <| .nil _ _) ?_
  refine aw_p 8191 (
    .a 4 1 <| .nil _ _) ?_
  refine aw_w [(4, .int .u64 0), (5, .int .u64 100)] [] ?_
  refine aw_rt ?_
  exact en_ret [.int .u64 0, .int .u64 100] (by kernel_rfl)
theorem au_158  :
    AC Tryz.prog 18 0 ([.int .i64 10, .int .i64 10]) [] (.agg #[.int .i64 0, .int .u64 100]) [] := by
  refine ac_in Tryz.func18 (fun w0 W pin => ?_)
  refine aw_p 3 (
    .a 1 1 <| .nil _ _) ?_
  refine aw_p 7 (
    .a 4 2 <| .p (does_c (au_157)) <| .a 5 2 <| .nil _ _) ?_
  refine aw_sq 14 15 ?_
  refine aw_p 29 (
    .a 2 2 <| .nil _ _) ?_
  refine aw_fl 59 ?_
  refine aw_sk ?_
  refine then_normal ?_
  refine aw_sq 30 31 ?_
  refine aw_p 61 (
    .a 2 2 <| .nil _ _) ?_
  refine aw_fl 123 ?_
  refine aw_sk ?_
  refine then_normal ?_
  refine aw_p 63 (
    .a 5 2 <| .nil _ _) ?_
  refine aw_rt ?_
  exact en_ret [.agg #[.int .i64 0, .int .u64 100]] (by kernel_rfl)
theorem au_159  :
    AC Tryz.prog 106 0 ([.agg #[.int .i64 5, .int .i64 1], .agg #[.int .i64 0, .int .i64 0], .agg #[.int .i64 10, .int .i64 0]]) [] (.tuple #[.agg #[.int .i64 0, .int .u64 100], .int .i64 100]) [] := by
  refine ac_in Tryz.func106 (fun w0 W pin => ?_)
  refine aw_p 3 (
    .a 5 1 <| .nil _ _) ?_
  refine aw_d 7 (
    .a 2 5 <| .p (does_c (au_153)) <| .a 3 5 <| .p (does_c (au_155)) <| .a 2 5 <| .nil _ _) ?_
  refine aw_sq 14 15 ?_
  refine aw_bl 0 29 ?_
  refine aw_p 59 (
    .a 3 5 <| .nil _ _) ?_
  refine aw_fl 119 ?_
  refine aw_p 239 (
    .a 4 5 <| .nil _ _) ?_
  refine aw_fl 479 ?_
  refine aw_sk ?_
  refine block_normal ?_
  refine then_normal ?_
  refine aw_p 31 (
    .a 3 5 <| .p (does_c (au_156)) <| .a 1 5 <| .nil _ _) ?_
  refine aw_w [(6, .pointer (some ⟨4, 0, none⟩)), (7, .int .i64 0), (8, .int .i64 100), (10, .int .i64 10)] [(4, ⟨[.int .i64 0, .int .u64 0], 52, true, 2⟩)] ?_
  refine aw_p 63 (
    .a 2 5 <| .p (does_c (au_158)) <| .a 3 5 <| .nil _ _) ?_
  refine aw_rt ?_
  exact en_ret [.agg #[.int .i64 0, .int .u64 100], .int .i64 100] (by kernel_rfl)
theorem au_160  :
    AC Tryz.prog 45 0 ([.int .u64 1, .int .u64 100]) [] (.tuple #[.int .u64 0, .int .u64 100]) [] := by
  refine ac_in Tryz.func45 (fun w0 W pin => ?_)
  refine aw_p 3 (
    .a 2 1 <| .nil _ _) ?_
  refine aw_p 7 (
    .a 3 1 <| .nil _ _) ?_
  refine aw_p 15 (
    .a 3 1 <| .nil _ _) ?_
  refine aw_p 31 (
    .a 3 1 <| .nil _ _) ?_
  refine aw_p 63 (
    .a 3 1 <| .nil _ _) ?_
  refine aw_p 127 (
    .a 4 1 <| .nil _ _) ?_
  refine aw_p 255 (
    .a 7 1 <| .nil _ _) ?_
  refine aw_w [(0, .int .u64 1), (1, .int .u64 100), (4, .int .u64 0), (5, .int .u64 0), (6, .int .u64 1), (7, .int .u64 0), (9, .int .u64 0), (11, .int .u64 0)] [] ?_
  refine aw_p 511 (
    .a 3 1 <| .nil _ _) ?_
  refine aw_p 1023 (
    .a 3 1 <| .nil _ _) ?_
  refine aw_p 2047 (
    .a 6 1 <| .nil _ _) ?_
  refine aw_p 4095 (
    .a 9 1 <| .nil _ _) ?_
  refine aw_p 8191 (
    .a 4 1 <| .nil _ _) ?_
  refine aw_w [(4, .int .u64 0), (5, .int .u64 100)] [] ?_
  refine aw_rt ?_
  exact en_ret [.int .u64 0, .int .u64 100] (by kernel_rfl)
theorem au_161  :
    AC Tryz.prog 18 0 ([.int .i64 1, .int .i64 100]) [] (.agg #[.int .i64 0, .int .u64 100]) [] := by
  refine ac_in Tryz.func18 (fun w0 W pin => ?_)
  refine aw_p 3 (
    .a 1 1 <| .nil _ _) ?_
  refine aw_p 7 (
    .a 4 2 <| .p (does_c (au_160)) <| .a 5 2 <| .nil _ _) ?_
  refine aw_sq 14 15 ?_
  refine aw_p 29 (
    .a 2 2 <| .nil _ _) ?_
  refine aw_fl 59 ?_
  refine aw_sk ?_
  refine then_normal ?_
  refine aw_sq 30 31 ?_
  refine aw_p 61 (
    .a 2 2 <| .nil _ _) ?_
  refine aw_fl 123 ?_
  refine aw_sk ?_
  refine then_normal ?_
  refine aw_p 63 (
    .a 5 2 <| .nil _ _) ?_
  refine aw_rt ?_
  exact en_ret [.agg #[.int .i64 0, .int .u64 100]] (by kernel_rfl)
theorem au_162  :
    AC Tryz.prog 107 0 ([.agg #[.int .i64 0, .int .u64 100], .agg #[.int .i64 0, .int .u64 100]]) [] (.int .i64 0) [] := by
  refine ac_in Tryz.func107 (fun w0 W pin => ?_)
  refine aw_p 3 (
    .a 3 1 <| .nil _ _) ?_
  refine aw_sq 6 7 ?_
  refine aw_bl 0 13 ?_
  refine aw_p 27 (
    .a 2 3 <| .p (does_e true ((show ((0 == 0) && ((100 == 100) && true)) = true from by decide))) <| .a 1 3 <| .nil _ _) ?_
  refine aw_tr 54 ?_
  refine aw_p 109 (
    .a 1 3 <| .nil _ _) ?_
  refine aw_rt ?_
  refine block_ret ?_
  refine then_ret ?_
  exact en_ret [.int .i64 0] (by kernel_rfl)
theorem au_163  :
    AC Tryz.prog 76 0 ([.agg #[.int .i64 5, .int .i64 1], .agg #[.int .i64 0, .int .i64 0], .agg #[.int .i64 10, .int .i64 0], .int .i64 1]) [] (.bool true) [] := by
  refine ac_in Tryz.func76 (fun w0 W pin => ?_)
  refine aw_p 3 (
    .a 4 1 <| .nil _ _) ?_
  refine aw_p 7 (
    .a 3 4 <| .nil _ _) ?_
  refine aw_sq 14 15 ?_
  refine aw_p 29 (
    .a 2 4 <| .nil _ _) ?_
  refine aw_fl 59 ?_
  refine aw_sk ?_
  refine then_normal ?_
  refine aw_p 31 (
    .a 3 4 <| .p (does_c (au_159)) <| .a 6 4 <| .nil _ _) ?_
  refine aw_d 63 (
    .a 5 5 <| .p (does_c (au_161)) <| .p (does_c (au_162)) <| .a 2 5 <| .nil _ _) ?_
  refine aw_w [(8, .bool true)] [] ?_
  refine aw_rt ?_
  exact en_ret [.bool true] (by kernel_rfl)
theorem au_164  :
    AC Tryz.prog 49 2 ([sV 0 3, sV 1 3, .int .i64 0, .int .i64 2, .int .i64 1]) [(0, ⟨[.int .i64 0, .int .i64 0, .int .i64 5, .int .i64 1, .int .i64 10, .int .i64 0], 28, true, 2⟩), (1, ⟨[.bool true, .bool false, .bool true], 4, true, 1⟩)] (.tuple #[]) [(0, ⟨[.int .i64 0, .int .i64 0, .int .i64 5, .int .i64 1, .int .i64 10, .int .i64 0], 28, true, 2⟩), (1, ⟨[.bool true, .bool false, .bool true], 4, true, 1⟩)] := by
  refine ac_in Tryz.func49 (fun w0 W pin => ?_)
  refine aw_p 3 (
    .a 1 2 <| .nil _ _) ?_
  refine aw_sq 6 7 ?_
  refine aw_p 13 (
    .a 3 2 <| .nil _ _) ?_
  refine aw_bl 0 27 ?_
  refine aw_lp 55 ?_
  refine al_round ?_
  refine aw_sq 110 111 ?_
  refine aw_p 221 (
    .a 3 2 <| .nil _ _) ?_
  refine aw_tr 442 ?_
  refine aw_sk ?_
  refine then_normal ?_
  refine aw_sq 222 223 ?_
  refine aw_bl 1 445 ?_
  refine aw_d 891 (
    .a 14 2 <| .p (does_c (au_163)) <| .a 24 2 <| .nil _ _) ?_
  refine aw_w [(0, sV 0 3), (1, sV 1 3), (2, .int .i64 0), (3, .int .i64 2), (4, .int .i64 1), (10, .int .i64 (-1)), (11, .int .i64 1), (16, .bool true), (57, .bool false)] [(0, ⟨[.int .i64 0, .int .i64 0, .int .i64 5, .int .i64 1, .int .i64 10, .int .i64 0], 28, true, 2⟩), (1, ⟨[.bool true, .bool false, .bool true], 4, true, 1⟩)] ?_
  refine aw_fl 1783 ?_
  refine aw_sk ?_
  refine block_normal ?_
  refine then_normal ?_
  refine aw_p1 (
    .a 3 2 <| .nil _ _) ?_
  refine then_normal ?_
  refine al_round ?_
  refine aw_sq 110 111 ?_
  refine aw_p 221 (
    .a 3 2 <| .nil _ _) ?_
  refine aw_fl 443 ?_
  refine aw_ex 0 ?_
  refine then_exit ?_
  refine then_exit ?_
  refine block_exit ?_
  refine then_normal ?_
  refine aw_sq 14 15 ?_
  refine aw_p 29 (
    .a 2 2 <| .nil _ _) ?_
  refine aw_tr 58 ?_
  refine aw_rt ?_
  refine then_ret ?_
  exact en_ret [] (by kernel_rfl)
theorem au_165  :
    AC Tryz.prog 22 1 ([sV 0 3, .int .i64 1]) [(0, ⟨[.int .i64 0, .int .i64 0, .int .i64 5, .int .i64 1, .int .i64 10, .int .i64 0], 28, true, 2⟩)] (sV 1 2) [(0, ⟨[.int .i64 0, .int .i64 0, .int .i64 5, .int .i64 1, .int .i64 10, .int .i64 0], 28, true, 2⟩), (1, ⟨[.int .i64 0, .int .i64 0, .int .i64 10, .int .i64 0], 28, true, 2⟩)] := by
  refine ac_in Tryz.func22 (fun w0 W pin => ?_)
  refine aw_p 3 (
    .a 1 1 <| .nil _ _) ?_
  refine aw_p 7 (
    .a 2 1 <| .p (does_mk (kl := .i64) (kc := .i64) (n' := 0) (c' := 3) 1 28 2 16 0 3 (.agg #[.int .i64 0, .int .i64 0]) [] (by kernel_rfl) (by kernel_rfl) (by kernel_rfl) (by kernel_rfl) (by decide) (by decide) (by decide) (by decide) (by decide)) <| .a 1 2 <| .nil _ _) ?_
  refine aw_sq 14 15 ?_
  refine aw_p 29 (
    .a 3 2 <| .nil _ _) ?_
  refine aw_bl 0 59 ?_
  refine aw_lp 119 ?_
  refine al_round ?_
  refine aw_p 239 (
    .a 1 2 <| .nil _ _) ?_
  refine aw_sq 478 479 ?_
  refine aw_tr 956 ?_
  refine aw_sk ?_
  refine then_normal ?_
  refine aw_sq 958 959 ?_
  refine aw_bl 1 1917 ?_
  refine aw_p 3835 (
    .a 4 2 <| .nil _ _) ?_
  refine aw_p1 (
    .a 2 3 <| .p (does_c (au_9)) <| .a 1 3 <| .p (does_ap 4) <| .a 1 5 <| .nil _ _) ?_
  refine block_normal ?_
  refine then_normal ?_
  refine aw_p1 (
    .a 2 5 <| .nil _ _) ?_
  refine then_normal ?_
  refine al_round ?_
  refine aw_p 239 (
    .a 1 5 <| .nil _ _) ?_
  refine aw_sq 478 479 ?_
  refine aw_tr 956 ?_
  refine aw_sk ?_
  refine then_normal ?_
  refine aw_sq 958 959 ?_
  refine aw_bl 1 1917 ?_
  refine aw_p 3835 (
    .a 4 5 <| .nil _ _) ?_
  refine aw_w [(1, .int .i64 1), (4, .slice none 0 0), (5, sV 4 1), (7, .pointer (some ⟨5, 0, none⟩)), (15, sV 0 3), (16, .int .i64 3), (17, .int .i64 1), (18, .bool true)] [(0, ⟨[.int .i64 0, .int .i64 0, .int .i64 5, .int .i64 1, .int .i64 10, .int .i64 0], 28, true, 2⟩), (4, ⟨[.int .i64 0, .int .i64 0], 28, true, 2⟩), (5, ⟨[.int .i64 5, .int .i64 1], 28, true, 2⟩)] ?_
  refine aw_p1 (
    .a 2 6 <| .p (does_c (au_148)) <| .a 1 6 <| .p (does_ap 7) <| .a 1 8 <| .nil _ _) ?_
  refine block_normal ?_
  refine then_normal ?_
  refine aw_p1 (
    .a 2 8 <| .nil _ _) ?_
  refine then_normal ?_
  refine al_round ?_
  refine aw_p 239 (
    .a 1 8 <| .nil _ _) ?_
  refine aw_sq 478 479 ?_
  refine aw_tr 956 ?_
  refine aw_sk ?_
  refine then_normal ?_
  refine aw_sq 958 959 ?_
  refine aw_bl 1 1917 ?_
  refine aw_p 3835 (
    .a 4 8 <| .nil _ _) ?_
  refine aw_p1 (
    .a 2 9 <| .p (does_c (au_150)) <| .a 1 9 <| .p (does_ap 10) <| .a 1 11 <| .nil _ _) ?_
  refine block_normal ?_
  refine then_normal ?_
  refine aw_p1 (
    .a 2 11 <| .nil _ _) ?_
  refine then_normal ?_
  refine al_round ?_
  refine aw_p 239 (
    .a 1 11 <| .nil _ _) ?_
  refine aw_sq 478 479 ?_
  refine aw_fl 957 ?_
  refine aw_ex 0 ?_
  refine then_exit ?_
  refine then_exit ?_
  refine block_exit ?_
  refine then_normal ?_
  refine aw_sq 30 31 ?_
  refine aw_p 61 (
    .a 3 11 <| .nil _ _) ?_
  refine aw_w [(1, .int .i64 1), (4, .slice none 0 0), (5, sV 10 3), (29, .bool false)] [(0, ⟨[.int .i64 0, .int .i64 0, .int .i64 5, .int .i64 1, .int .i64 10, .int .i64 0], 28, true, 2⟩), (10, ⟨[.int .i64 0, .int .i64 0, .int .i64 5, .int .i64 1, .int .i64 10, .int .i64 0], 28, true, 2⟩)] ?_
  refine aw_fl 123 ?_
  refine aw_sk ?_
  refine then_normal ?_
  refine aw_p 63 (
    .a 2 11 <| .p (does_mk (kl := .i64) (kc := .i64) (n' := 3) (c' := 3) 11 4 1 1 3 3 (.bool false) [.bool false, .bool false, .bool false] (by kernel_rfl) (by kernel_rfl) (by kernel_rfl) (by kernel_rfl) (by decide) (by decide) (by decide) (by decide) (by decide)) <| .a 1 12 <| .nil _ _) ?_
  refine aw_p 127 (
    .a 9 12 <| .nil _ _) ?_
  refine aw_p 255 (
    .a 6 12 <| .p (does_k [10, 11] (au_164)) <| .nil _ _) ?_
  refine aw_p 511 (
    .a 2 12 <| .p (does_mk (kl := .i64) (kc := .i64) (n' := 0) (c' := 3) 12 28 2 16 0 3 (.agg #[.int .i64 0, .int .i64 0]) [] (by kernel_rfl) (by kernel_rfl) (by kernel_rfl) (by kernel_rfl) (by decide) (by decide) (by decide) (by decide) (by decide)) <| .a 1 13 <| .nil _ _) ?_
  refine aw_sq 1022 1023 ?_
  refine aw_p 2045 (
    .a 3 13 <| .nil _ _) ?_
  refine aw_w [(4, .slice none 0 0), (8, sV 11 3), (9, sV 12 0), (51, sV 10 3), (52, .int .i64 3), (53, .int .i64 0)] [(0, ⟨[.int .i64 0, .int .i64 0, .int .i64 5, .int .i64 1, .int .i64 10, .int .i64 0], 28, true, 2⟩), (10, ⟨[.int .i64 0, .int .i64 0, .int .i64 5, .int .i64 1, .int .i64 10, .int .i64 0], 28, true, 2⟩), (11, ⟨[.bool true, .bool false, .bool true], 4, true, 1⟩), (12, ⟨[], 28, true, 2⟩)] ?_
  refine aw_bl 2 4091 ?_
  refine aw_lp 8183 ?_
  refine al_round ?_
  refine aw_p 16367 (
    .a 1 13 <| .nil _ _) ?_
  refine aw_sq 32734 32735 ?_
  refine aw_tr 65468 ?_
  refine aw_sk ?_
  refine then_normal ?_
  refine aw_sq 65470 65471 ?_
  refine aw_bl 3 130941 ?_
  refine aw_p 261883 (
    .a 6 13 <| .nil _ _) ?_
  refine aw_p 523767 (
    .a 4 14 <| .nil _ _) ?_
  refine aw_tr 1047534 ?_
  refine aw_p1 (
    .a 3 14 <| .p (does_ap 15) <| .a 1 16 <| .nil _ _) ?_
  refine block_normal ?_
  refine then_normal ?_
  refine aw_p1 (
    .a 2 16 <| .nil _ _) ?_
  refine then_normal ?_
  refine al_round ?_
  refine aw_p 16367 (
    .a 1 16 <| .nil _ _) ?_
  refine aw_sq 32734 32735 ?_
  refine aw_tr 65468 ?_
  refine aw_sk ?_
  refine then_normal ?_
  refine aw_sq 65470 65471 ?_
  refine aw_bl 3 130941 ?_
  refine aw_p 261883 (
    .a 6 16 <| .nil _ _) ?_
  refine aw_w [(4, .slice none 0 0), (8, sV 11 3), (9, sV 15 1), (10, .int .i64 1), (11, .pointer (some ⟨16, 0, none⟩)), (51, sV 10 3), (52, .int .i64 3), (53, .int .i64 1), (54, .bool true), (61, .bool true)] [(0, ⟨[.int .i64 0, .int .i64 0, .int .i64 5, .int .i64 1, .int .i64 10, .int .i64 0], 28, true, 2⟩), (10, ⟨[.int .i64 0, .int .i64 0, .int .i64 5, .int .i64 1, .int .i64 10, .int .i64 0], 28, true, 2⟩), (11, ⟨[.bool true, .bool false, .bool true], 4, true, 1⟩), (15, ⟨[.int .i64 0, .int .i64 0], 28, true, 2⟩), (16, ⟨[.int .i64 5, .int .i64 1], 28, true, 2⟩)] ?_
  refine aw_p 523767 (
    .a 4 17 <| .nil _ _) ?_
  refine aw_fl 1047535 ?_
  refine aw_sk ?_
  refine block_normal ?_
  refine then_normal ?_
  refine aw_p1 (
    .a 2 17 <| .nil _ _) ?_
  refine then_normal ?_
  refine al_round ?_
  refine aw_p 16367 (
    .a 1 17 <| .nil _ _) ?_
  refine aw_sq 32734 32735 ?_
  refine aw_tr 65468 ?_
  refine aw_sk ?_
  refine then_normal ?_
  refine aw_sq 65470 65471 ?_
  refine aw_bl 3 130941 ?_
  refine aw_p 261883 (
    .a 6 17 <| .nil _ _) ?_
  refine aw_p 523767 (
    .a 4 18 <| .nil _ _) ?_
  refine aw_tr 1047534 ?_
  refine aw_p1 (
    .a 3 18 <| .p (does_ap 19) <| .a 1 20 <| .nil _ _) ?_
  refine block_normal ?_
  refine then_normal ?_
  refine aw_p1 (
    .a 2 20 <| .nil _ _) ?_
  refine then_normal ?_
  refine al_round ?_
  refine aw_p 16367 (
    .a 1 20 <| .nil _ _) ?_
  refine aw_w [(4, .slice none 0 0), (8, sV 11 3), (9, sV 19 2), (10, .int .i64 2), (11, .pointer (some ⟨17, 0, none⟩)), (51, sV 10 3), (52, .int .i64 3), (53, .int .i64 3), (54, .bool false), (61, .bool true)] [(0, ⟨[.int .i64 0, .int .i64 0, .int .i64 5, .int .i64 1, .int .i64 10, .int .i64 0], 28, true, 2⟩), (10, ⟨[.int .i64 0, .int .i64 0, .int .i64 5, .int .i64 1, .int .i64 10, .int .i64 0], 28, true, 2⟩), (11, ⟨[.bool true, .bool false, .bool true], 4, true, 1⟩), (17, ⟨[.int .i64 10, .int .i64 0], 28, true, 2⟩), (19, ⟨[.int .i64 0, .int .i64 0, .int .i64 10, .int .i64 0], 28, true, 2⟩)] ?_
  refine aw_sq 32734 32735 ?_
  refine aw_fl 65469 ?_
  refine aw_ex 2 ?_
  refine then_exit ?_
  refine then_exit ?_
  refine block_exit ?_
  refine then_normal ?_
  refine aw_p 2047 (
    .a 2 20 <| .nil _ _) ?_
  refine aw_r [(1, 19)] [(4, sV 19 2)] [(0, ⟨[.int .i64 0, .int .i64 0, .int .i64 5, .int .i64 1, .int .i64 10, .int .i64 0], 28, true, 2⟩), (19, ⟨[.int .i64 0, .int .i64 0, .int .i64 10, .int .i64 0], 28, true, 2⟩)] [(4, sV 1 2)] [(0, ⟨[.int .i64 0, .int .i64 0, .int .i64 5, .int .i64 1, .int .i64 10, .int .i64 0], 28, true, 2⟩), (1, ⟨[.int .i64 0, .int .i64 0, .int .i64 10, .int .i64 0], 28, true, 2⟩)] ?_ ⟨rfl, (rK rfl), trivial⟩ ⟨rfl, ⟨rfl, rfl, rfl, (.flats (by kernel_rfl))⟩, rfl, ⟨rfl, rfl, rfl, (.flats (by kernel_rfl))⟩, trivial⟩
  refine aw_rt ?_
  exact en_ret [sV 1 2] (by kernel_rfl)
theorem au_166  :
    AC Tryz.prog 21 2 ([sV 0 2, sV 1 2]) [(0, ⟨[.int .i64 0, .int .i64 0, .int .i64 10, .int .i64 0], 28, true, 2⟩), (1, ⟨[.int .i64 0, .int .i64 0, .int .i64 10, .int .i64 0], 28, true, 2⟩)] (.bool true) [(0, ⟨[.int .i64 0, .int .i64 0, .int .i64 10, .int .i64 0], 28, true, 2⟩), (1, ⟨[.int .i64 0, .int .i64 0, .int .i64 10, .int .i64 0], 28, true, 2⟩)] := by
  refine ac_in Tryz.func21 (fun w0 W pin => ?_)
  refine aw_p 3 (
    .a 1 2 <| .nil _ _) ?_
  refine aw_sq 6 7 ?_
  refine aw_p 13 (
    .a 5 2 <| .nil _ _) ?_
  refine aw_fl 27 ?_
  refine aw_sk ?_
  refine then_normal ?_
  refine aw_sq 14 15 ?_
  refine aw_p 29 (
    .a 3 2 <| .nil _ _) ?_
  refine aw_bl 0 59 ?_
  refine aw_lp 119 ?_
  refine al_round ?_
  refine aw_p 239 (
    .a 1 2 <| .nil _ _) ?_
  refine aw_sq 478 479 ?_
  refine aw_tr 956 ?_
  refine aw_sk ?_
  refine then_normal ?_
  refine aw_sq 958 959 ?_
  refine aw_bl 1 1917 ?_
  refine aw_p 3835 (
    .a 2 2 <| .nil _ _) ?_
  refine aw_d 7671 (
    .a 8 2 <| .p (does_e false ((show (!((0 == 0) && ((0 == 0) && true))) = false from by decide))) <| .nil _ _) ?_
  refine aw_fl 15343 ?_
  refine aw_sk ?_
  refine block_normal ?_
  refine then_normal ?_
  refine aw_p1 (
    .a 2 2 <| .nil _ _) ?_
  refine then_normal ?_
  refine al_round ?_
  refine aw_p 239 (
    .a 1 2 <| .nil _ _) ?_
  refine aw_sq 478 479 ?_
  refine aw_tr 956 ?_
  refine aw_sk ?_
  refine then_normal ?_
  refine aw_sq 958 959 ?_
  refine aw_bl 1 1917 ?_
  refine aw_p 3835 (
    .a 2 2 <| .nil _ _) ?_
  refine aw_w [(0, sV 0 2), (1, sV 1 2), (4, .bool false), (5, .int .i64 1), (12, .int .i64 2), (13, .int .i64 1), (14, .bool true), (24, .bool false)] [(0, ⟨[.int .i64 0, .int .i64 0, .int .i64 10, .int .i64 0], 28, true, 2⟩), (1, ⟨[.int .i64 0, .int .i64 0, .int .i64 10, .int .i64 0], 28, true, 2⟩)] ?_
  refine aw_d 7671 (
    .a 8 2 <| .p (does_e false ((show (!((10 == 10) && ((0 == 0) && true))) = false from by decide))) <| .nil _ _) ?_
  refine aw_fl 15343 ?_
  refine aw_sk ?_
  refine block_normal ?_
  refine then_normal ?_
  refine aw_p1 (
    .a 2 2 <| .nil _ _) ?_
  refine then_normal ?_
  refine al_round ?_
  refine aw_p 239 (
    .a 1 2 <| .nil _ _) ?_
  refine aw_sq 478 479 ?_
  refine aw_fl 957 ?_
  refine aw_ex 0 ?_
  refine then_exit ?_
  refine then_exit ?_
  refine block_exit ?_
  refine then_normal ?_
  refine aw_p 31 (
    .a 1 2 <| .nil _ _) ?_
  refine aw_rt ?_
  exact en_ret [.bool true] (by kernel_rfl)
theorem h6begun_ok  :
    AC Tryz.prog 4 0 ([]) [] (.bool true) [] := by
  refine ac_in Tryz.func4 (fun w0 W pin => ?_)
  refine aw_p 3 (
    .a 1 1 <| .nil _ _) ?_
  refine aw_p 7 (
    .a 1 1 <| .nil _ _) ?_
  refine aw_p 15 (
    .a 1 1 <| .p (does_c (au_1)) <| .a 1 1 <| .p (does_c (au_2)) <| .a 1 1 <| .p (does_c (au_3)) <| .a 1 1 <| .p (does_c (au_4)) <| .a 2 1 <| .nil _ _) ?_
  refine aw_p 31 (
    .a 1 2 <| .p (does_c (au_1)) <| .a 1 2 <| .p (does_c (au_5)) <| .a 1 2 <| .p (does_c (au_6)) <| .a 1 2 <| .p (does_c (au_7)) <| .p (does_c (au_75)) <| .a 6 2 <| .nil _ _) ?_
  refine aw_w [(0, .bool false), (1, .func (.func 16) #[] #[]), (2, sV 1 4), (3, .pointer (some ⟨2, 0, none⟩)), (4, .int .i64 0)] [(1, ⟨[.int .i64 0, .int .i64 0, .int .i64 2, .int .i64 0, .int .i64 2, .int .i64 2, .int .i64 0, .int .i64 2], 28, true, 2⟩), (2, ⟨[.int .i64 1, .int .i64 2, .int .i64 1, .int .i64 2], 47, true, 4⟩)] ?_
  refine aw_p 63 (
    .a 7 3 <| .p (does_e true ((show (((1 == 1) && ((2 == 2) && true)) && (((1 == 1) && ((2 == 2) && true)) && true)) = true from by decide))) <| .a 3 3 <| .p (does_k [1] (au_85)) <| .a 5 3 <| .p (does_c (au_5)) <| .p (does_k [1] (au_110)) <| .a 3 3 <| .p (does_c (au_112)) <| .p (does_c (au_113)) <|
    .p (does_e true ((show ((0 == 0) && ((15 == 15) && true)) = true from by decide))) <| .a 3 3 <| .p (does_k [1, 3] (au_144)) <| .a 5 4 <| .p (does_c (au_1)) <| .a 1 4 <| .p (does_c (au_145)) <| .a 1 4 <| .p (does_c (au_146)) <| .a 1 4 <| .p (does_k [4, 5] (au_165)) <| .a 1 6 <| .p (does_c (au_1)) <|
    .a 1 6 <| .p (does_c (au_146)) <| .a 1 6 <| .p (does_k [5, 6] (au_166)) <| .a 2 7 <| .nil _ _) ?_
  refine aw_w [(0, .bool true)] [] ?_
  refine aw_rt ?_
  exact en_ret [.bool true] (by kernel_rfl)
end Go.Proofs.YtndkhgfecnbmnaaGreat.Am
