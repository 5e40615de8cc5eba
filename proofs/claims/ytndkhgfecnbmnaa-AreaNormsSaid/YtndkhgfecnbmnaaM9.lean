import Derived.Test.YtndkhgfecnbmnaaProg
import Derived.Test.YtndkhgfecnbmnaaM2
import Derived.Test.YtndkhgfecnbmnaaM3
import Derived.Test.YtndkhgfecnbmnaaM8
import Derived.Test.YtndkhgfecnbmnaaM4
import Derived.Test.YtndkhgfecnbmnaaM6
import Derived.Test.YtndkhgfecnbmnaaM5
namespace Go.Proofs.Ytndkhgfecnbmnaa.Am
open Go Go.Proofs
set_option maxRecDepth 100000
set_option maxHeartbeats 4000000
set_option linter.unusedVariables false
set_option linter.unusedSimpArgs false
theorem au_terrkeep1_1  :
    AC Try.prog 49 0 ([.int .i64 0, .int .i64 0]) [] (.agg #[.int .i64 0, .int .i64 0]) [] := by
  refine ac_in Try.func49 (fun w0 W pin => ?_)
  refine aw_p 3 (
    .a 1 1 <| .nil _ _) ?_
  refine aw_p 7 (
    .a 4 2 <| .nil _ _) ?_
  refine aw_rt ?_
  exact en_ret [.agg #[.int .i64 0, .int .i64 0]] (by kernel_rfl)
theorem au_terrkeep1_2  :
    AC Try.prog 49 0 ([.int .i64 2, .int .i64 0]) [] (.agg #[.int .i64 2, .int .i64 0]) [] := by
  refine ac_in Try.func49 (fun w0 W pin => ?_)
  refine aw_p 3 (
    .a 1 1 <| .nil _ _) ?_
  refine aw_p 7 (
    .a 4 2 <| .nil _ _) ?_
  refine aw_rt ?_
  exact en_ret [.agg #[.int .i64 2, .int .i64 0]] (by kernel_rfl)
theorem au_terrkeep1_3  :
    AC Try.prog 49 0 ([.int .i64 2, .int .i64 2]) [] (.agg #[.int .i64 2, .int .i64 2]) [] := by
  refine ac_in Try.func49 (fun w0 W pin => ?_)
  refine aw_p 3 (
    .a 1 1 <| .nil _ _) ?_
  refine aw_p 7 (
    .a 4 2 <| .nil _ _) ?_
  refine aw_rt ?_
  exact en_ret [.agg #[.int .i64 2, .int .i64 2]] (by kernel_rfl)
theorem au_terrkeep1_4  :
    AC Try.prog 49 0 ([.int .i64 0, .int .i64 2]) [] (.agg #[.int .i64 0, .int .i64 2]) [] := by
  refine ac_in Try.func49 (fun w0 W pin => ?_)
  refine aw_p 3 (
    .a 1 1 <| .nil _ _) ?_
  refine aw_p 7 (
    .a 4 2 <| .nil _ _) ?_
  refine aw_rt ?_
  exact en_ret [.agg #[.int .i64 0, .int .i64 2]] (by kernel_rfl)
theorem au_terrkeep1_5  :
    AC Try.prog 49 0 ([.int .i64 1, .int .i64 1]) [] (.agg #[.int .i64 1, .int .i64 1]) [] := by
  refine ac_in Try.func49 (fun w0 W pin => ?_)
  refine aw_p 3 (
    .a 1 1 <| .nil _ _) ?_
  refine aw_p 7 (
    .a 4 2 <| .nil _ _) ?_
  refine aw_rt ?_
  exact en_ret [.agg #[.int .i64 1, .int .i64 1]] (by kernel_rfl)
theorem au_terrkeep1_6  :
    AC Try.prog 49 0 ([.int .i64 0, .int .i64 1]) [] (.agg #[.int .i64 0, .int .i64 1]) [] := by
  refine ac_in Try.func49 (fun w0 W pin => ?_)
  refine aw_p 3 (
    .a 1 1 <| .nil _ _) ?_
  refine aw_p 7 (
    .a 4 2 <| .nil _ _) ?_
  refine aw_rt ?_
  exact en_ret [.agg #[.int .i64 0, .int .i64 1]] (by kernel_rfl)
theorem au_terrkeep1_7  :
    AC Try.prog 49 0 ([.int .i64 1, .int .i64 0]) [] (.agg #[.int .i64 1, .int .i64 0]) [] := by
  refine ac_in Try.func49 (fun w0 W pin => ?_)
  refine aw_p 3 (
    .a 1 1 <| .nil _ _) ?_
  refine aw_p 7 (
    .a 4 2 <| .nil _ _) ?_
  refine aw_rt ?_
  exact en_ret [.agg #[.int .i64 1, .int .i64 0]] (by kernel_rfl)
theorem au_terrkeep1_8  :
    AC Try.prog 95 0 ([.int .i64 0, .int .i64 1048576]) [] (.int .i64 0) [] := by
  refine ac_in Try.func95 (fun w0 W pin => ?_)
  refine aw_p 3 (
    .a 1 1 <| .nil _ _) ?_
  refine aw_p 7 (
    .a 7 1 <| .nil _ _) ?_
  refine aw_rt ?_
  exact en_ret [.int .i64 0] (by kernel_rfl)
theorem au_terrkeep1_9  :
    AC Try.prog 55 0 ([.agg #[.int .i64 0, .int .i64 0]]) [] (.agg #[.int .i64 0, .int .i64 0]) [] := by
  refine ac_in Try.func55 (fun w0 W pin => ?_)
  refine aw_p 3 (
    .a 2 1 <| .nil _ _) ?_
  refine aw_d 7 (
    .a 2 3 <| .p (does_c (au_terrkeep1_8)) <| .a 2 3 <| .p (does_c (au_terrkeep1_8)) <| .a 2 3 <| .nil _ _) ?_
  refine aw_rt ?_
  exact en_ret [.agg #[.int .i64 0, .int .i64 0]] (by kernel_rfl)
theorem au_terrkeep1_10  :
    AC Try.prog 95 0 ([.int .i64 1, .int .i64 1048576]) [] (.int .i64 1) [] := by
  refine ac_in Try.func95 (fun w0 W pin => ?_)
  refine aw_p 3 (
    .a 1 1 <| .nil _ _) ?_
  refine aw_p 7 (
    .a 7 1 <| .nil _ _) ?_
  refine aw_rt ?_
  exact en_ret [.int .i64 1] (by kernel_rfl)
theorem au_terrkeep1_11  :
    AC Try.prog 55 0 ([.agg #[.int .i64 1, .int .i64 1]]) [] (.agg #[.int .i64 1, .int .i64 1]) [] := by
  refine ac_in Try.func55 (fun w0 W pin => ?_)
  refine aw_p 3 (
    .a 2 1 <| .nil _ _) ?_
  refine aw_d 7 (
    .a 2 3 <| .p (does_c (au_terrkeep1_10)) <| .a 2 3 <| .p (does_c (au_terrkeep1_10)) <| .a 2 3 <| .nil _ _) ?_
  refine aw_rt ?_
  exact en_ret [.agg #[.int .i64 1, .int .i64 1]] (by kernel_rfl)
theorem au_terrkeep1_12  :
    AC Try.prog 55 0 ([.agg #[.int .i64 0, .int .i64 1]]) [] (.agg #[.int .i64 0, .int .i64 1]) [] := by
  refine ac_in Try.func55 (fun w0 W pin => ?_)
  refine aw_p 3 (
    .a 2 1 <| .nil _ _) ?_
  refine aw_d 7 (
    .a 2 3 <| .p (does_c (au_terrkeep1_8)) <| .a 2 3 <| .p (does_c (au_terrkeep1_10)) <| .a 2 3 <| .nil _ _) ?_
  refine aw_rt ?_
  exact en_ret [.agg #[.int .i64 0, .int .i64 1]] (by kernel_rfl)
theorem au_terrkeep1_13  :
    AC Try.prog 55 0 ([.agg #[.int .i64 1, .int .i64 0]]) [] (.agg #[.int .i64 1, .int .i64 0]) [] := by
  refine ac_in Try.func55 (fun w0 W pin => ?_)
  refine aw_p 3 (
    .a 2 1 <| .nil _ _) ?_
  refine aw_d 7 (
    .a 2 3 <| .p (does_c (au_terrkeep1_10)) <| .a 2 3 <| .p (does_c (au_terrkeep1_8)) <| .a 2 3 <| .nil _ _) ?_
  refine aw_rt ?_
  exact en_ret [.agg #[.int .i64 1, .int .i64 0]] (by kernel_rfl)
theorem au_terrkeep1_14  :
    AC Try.prog 118 0 ([.agg #[.int .i64 0, .int .i64 0], .agg #[.int .i64 1, .int .i64 1]]) [] (.agg #[.int .i64 1, .int .i64 1]) [] := by
  refine ac_in Try.func118 (fun w0 W pin => ?_)
  refine aw_p 3 (
    .a 3 1 <| .nil _ _) ?_
  refine aw_d 7 (
    .a 1 4 <| .p (does_c (au_terrkeep1_9)) <| .a 1 4 <| .p (does_c (au_terrkeep1_11)) <| .a 2 4 <| .nil _ _) ?_
  refine aw_p 15 (
    .a 12 4 <| .nil _ _) ?_
  refine aw_rt ?_
  exact en_ret [.agg #[.int .i64 1, .int .i64 1]] (by kernel_rfl)
theorem au_terrkeep1_15  :
    AC Try.prog 118 0 ([.agg #[.int .i64 0, .int .i64 0], .agg #[.int .i64 0, .int .i64 1]]) [] (.agg #[.int .i64 0, .int .i64 1]) [] := by
  refine ac_in Try.func118 (fun w0 W pin => ?_)
  refine aw_p 3 (
    .a 3 1 <| .nil _ _) ?_
  refine aw_d 7 (
    .a 1 4 <| .p (does_c (au_terrkeep1_9)) <| .a 1 4 <| .p (does_c (au_terrkeep1_12)) <| .a 2 4 <| .nil _ _) ?_
  refine aw_p 15 (
    .a 12 4 <| .nil _ _) ?_
  refine aw_rt ?_
  exact en_ret [.agg #[.int .i64 0, .int .i64 1]] (by kernel_rfl)
theorem au_terrkeep1_16  :
    AC Try.prog 87 0 ([.agg #[.int .i64 0, .int .i64 0], .agg #[.int .i64 1, .int .i64 1], .agg #[.int .i64 0, .int .i64 1]]) [] (.int .i64 1) [] := by
  refine ac_in Try.func87 (fun w0 W pin => ?_)
  refine aw_p 3 (
    .a 4 1 <| .nil _ _) ?_
  refine aw_d 7 (
    .a 2 4 <| .p (does_c (au_terrkeep1_14)) <| .a 2 4 <| .p (does_c (au_terrkeep1_15)) <| .a 4 4 <| .nil _ _) ?_
  refine aw_p 15 (
    .a 12 6 <| .nil _ _) ?_
  refine aw_w [(6, .int .i64 1)] [] ?_
  refine aw_rt ?_
  exact en_ret [.int .i64 1] (by kernel_rfl)
theorem au_terrkeep1_17  :
    AC Try.prog 120 0 ([.int .i64 1]) [] (.bool false) [] := by
  refine ac_in Try.func120 (fun w0 W pin => ?_)
  refine aw_p 3 (
    .a 1 1 <| .nil _ _) ?_
  refine aw_p 7 (
    .a 4 1 <| .nil _ _) ?_
  refine aw_rt ?_
  exact en_ret [.bool false] (by kernel_rfl)
theorem au_terrkeep1_18  :
    AC Try.prog 120 0 ([.int .i64 0]) [] (.bool false) [] := by
  refine ac_in Try.func120 (fun w0 W pin => ?_)
  refine aw_p 3 (
    .a 1 1 <| .nil _ _) ?_
  refine aw_p 7 (
    .a 4 1 <| .nil _ _) ?_
  refine aw_rt ?_
  exact en_ret [.bool false] (by kernel_rfl)
theorem au_terrkeep1_19  :
    AC Try.prog 97 0 ([.int .i64 1, .int .i64 0]) [] (.int .i64 1) [] := by
  refine ac_in Try.func97 (fun w0 W pin => ?_)
  refine aw_p 3 (
    .a 1 1 <| .nil _ _) ?_
  refine aw_p 7 (
    .a 1 1 <| .p (does_c (au_terrkeep1_17)) <| .a 1 1 <| .nil _ _) ?_
  refine aw_p 15 (
    .a 1 1 <| .p (does_c (au_terrkeep1_18)) <| .a 1 1 <| .nil _ _) ?_
  refine aw_sq 30 31 ?_
  refine aw_p 61 (
    .a 1 1 <| .nil _ _) ?_
  refine aw_fl 123 ?_
  refine aw_sk ?_
  refine then_normal ?_
  refine aw_sq 62 63 ?_
  refine aw_p 125 (
    .a 1 1 <| .nil _ _) ?_
  refine aw_fl 251 ?_
  refine aw_sk ?_
  refine then_normal ?_
  refine aw_sq 126 127 ?_
  refine aw_p 253 (
    .a 3 1 <| .nil _ _) ?_
  refine aw_fl 507 ?_
  refine aw_sk ?_
  refine then_normal ?_
  refine aw_sq 254 255 ?_
  refine aw_p 509 (
    .a 3 1 <| .nil _ _) ?_
  refine aw_tr 1018 ?_
  refine aw_p 2037 (
    .a 1 1 <| .nil _ _) ?_
  refine aw_rt ?_
  refine then_ret ?_
  exact en_ret [.int .i64 1] (by kernel_rfl)
theorem au_terrkeep1_20  :
    AC Try.prog 57 0 ([.agg #[.int .i64 0, .int .i64 0], .agg #[.int .i64 1, .int .i64 1], .agg #[.int .i64 0, .int .i64 1]]) [] (.int .i64 1) [] := by
  refine ac_in Try.func57 (fun w0 W pin => ?_)
  refine aw_p 3 (
    .a 4 1 <| .nil _ _) ?_
  refine aw_p 7 (
    .a 3 4 <| .p (does_c (au_terrkeep1_16)) <| .p (does_c (au_terrkeep1_19)) <| .a 1 4 <| .nil _ _) ?_
  refine aw_rt ?_
  exact en_ret [.int .i64 1] (by kernel_rfl)
theorem au_terrkeep1_21  :
    AC Try.prog 118 0 ([.agg #[.int .i64 0, .int .i64 0], .agg #[.int .i64 1, .int .i64 0]]) [] (.agg #[.int .i64 1, .int .i64 0]) [] := by
  refine ac_in Try.func118 (fun w0 W pin => ?_)
  refine aw_p 3 (
    .a 3 1 <| .nil _ _) ?_
  refine aw_d 7 (
    .a 1 4 <| .p (does_c (au_terrkeep1_9)) <| .a 1 4 <| .p (does_c (au_terrkeep1_13)) <| .a 2 4 <| .nil _ _) ?_
  refine aw_p 15 (
    .a 12 4 <| .nil _ _) ?_
  refine aw_rt ?_
  exact en_ret [.agg #[.int .i64 1, .int .i64 0]] (by kernel_rfl)
theorem au_terrkeep1_22  :
    AC Try.prog 87 0 ([.agg #[.int .i64 0, .int .i64 0], .agg #[.int .i64 1, .int .i64 1], .agg #[.int .i64 1, .int .i64 0]]) [] (.int .i64 (-1)) [] := by
  refine ac_in Try.func87 (fun w0 W pin => ?_)
  refine aw_p 3 (
    .a 4 1 <| .nil _ _) ?_
  refine aw_d 7 (
    .a 2 4 <| .p (does_c (au_terrkeep1_14)) <| .a 2 4 <| .p (does_c (au_terrkeep1_21)) <| .a 4 4 <| .nil _ _) ?_
  refine aw_p 15 (
    .a 12 6 <| .nil _ _) ?_
  refine aw_w [(6, .int .i64 (-1))] [] ?_
  refine aw_rt ?_
  exact en_ret [.int .i64 (-1)] (by kernel_rfl)
theorem au_terrkeep1_23  :
    AC Try.prog 120 0 ([.int .i64 (-1)]) [] (.bool false) [] := by
  refine ac_in Try.func120 (fun w0 W pin => ?_)
  refine aw_p 3 (
    .a 1 1 <| .nil _ _) ?_
  refine aw_p 7 (
    .a 4 1 <| .nil _ _) ?_
  refine aw_rt ?_
  exact en_ret [.bool false] (by kernel_rfl)
theorem au_terrkeep1_24  :
    AC Try.prog 97 0 ([.int .i64 (-1), .int .i64 0]) [] (.int .i64 (-1)) [] := by
  refine ac_in Try.func97 (fun w0 W pin => ?_)
  refine aw_p 3 (
    .a 1 1 <| .nil _ _) ?_
  refine aw_p 7 (
    .a 1 1 <| .p (does_c (au_terrkeep1_23)) <| .a 1 1 <| .nil _ _) ?_
  refine aw_p 15 (
    .a 1 1 <| .p (does_c (au_terrkeep1_18)) <| .a 1 1 <| .nil _ _) ?_
  refine aw_sq 30 31 ?_
  refine aw_p 61 (
    .a 1 1 <| .nil _ _) ?_
  refine aw_fl 123 ?_
  refine aw_sk ?_
  refine then_normal ?_
  refine aw_sq 62 63 ?_
  refine aw_p 125 (
    .a 1 1 <| .nil _ _) ?_
  refine aw_fl 251 ?_
  refine aw_sk ?_
  refine then_normal ?_
  refine aw_sq 126 127 ?_
  refine aw_p 253 (
    .a 3 1 <| .nil _ _) ?_
  refine aw_tr 506 ?_
  refine aw_p 1013 (
    .a 1 1 <| .nil _ _) ?_
  refine aw_rt ?_
  refine then_ret ?_
  exact en_ret [.int .i64 (-1)] (by kernel_rfl)
theorem au_terrkeep1_25  :
    AC Try.prog 57 0 ([.agg #[.int .i64 0, .int .i64 0], .agg #[.int .i64 1, .int .i64 1], .agg #[.int .i64 1, .int .i64 0]]) [] (.int .i64 (-1)) [] := by
  refine ac_in Try.func57 (fun w0 W pin => ?_)
  refine aw_p 3 (
    .a 4 1 <| .nil _ _) ?_
  refine aw_p 7 (
    .a 3 4 <| .p (does_c (au_terrkeep1_22)) <| .p (does_c (au_terrkeep1_24)) <| .a 1 4 <| .nil _ _) ?_
  refine aw_rt ?_
  exact en_ret [.int .i64 (-1)] (by kernel_rfl)
theorem au_terrkeep1_26  :
    AC Try.prog 118 0 ([.agg #[.int .i64 0, .int .i64 1], .agg #[.int .i64 1, .int .i64 0]]) [] (.agg #[.int .i64 1, .int .i64 (-1)]) [] := by
  refine ac_in Try.func118 (fun w0 W pin => ?_)
  refine aw_p 3 (
    .a 3 1 <| .nil _ _) ?_
  refine aw_d 7 (
    .a 1 4 <| .p (does_c (au_terrkeep1_12)) <| .a 1 4 <| .p (does_c (au_terrkeep1_13)) <| .a 2 4 <| .nil _ _) ?_
  refine aw_p 15 (
    .a 12 4 <| .nil _ _) ?_
  refine aw_rt ?_
  exact en_ret [.agg #[.int .i64 1, .int .i64 (-1)]] (by kernel_rfl)
theorem au_terrkeep1_27  :
    AC Try.prog 118 0 ([.agg #[.int .i64 0, .int .i64 1], .agg #[.int .i64 0, .int .i64 0]]) [] (.agg #[.int .i64 0, .int .i64 (-1)]) [] := by
  refine ac_in Try.func118 (fun w0 W pin => ?_)
  refine aw_p 3 (
    .a 3 1 <| .nil _ _) ?_
  refine aw_d 7 (
    .a 1 4 <| .p (does_c (au_terrkeep1_12)) <| .a 1 4 <| .p (does_c (au_terrkeep1_9)) <| .a 2 4 <| .nil _ _) ?_
  refine aw_p 15 (
    .a 12 4 <| .nil _ _) ?_
  refine aw_rt ?_
  exact en_ret [.agg #[.int .i64 0, .int .i64 (-1)]] (by kernel_rfl)
theorem au_terrkeep1_28  :
    AC Try.prog 87 0 ([.agg #[.int .i64 0, .int .i64 1], .agg #[.int .i64 1, .int .i64 0], .agg #[.int .i64 0, .int .i64 0]]) [] (.int .i64 (-1)) [] := by
  refine ac_in Try.func87 (fun w0 W pin => ?_)
  refine aw_p 3 (
    .a 4 1 <| .nil _ _) ?_
  refine aw_d 7 (
    .a 2 4 <| .p (does_c (au_terrkeep1_26)) <| .a 2 4 <| .p (does_c (au_terrkeep1_27)) <| .a 4 4 <| .nil _ _) ?_
  refine aw_p 15 (
    .a 12 6 <| .nil _ _) ?_
  refine aw_w [(6, .int .i64 (-1))] [] ?_
  refine aw_rt ?_
  exact en_ret [.int .i64 (-1)] (by kernel_rfl)
theorem au_terrkeep1_29  :
    AC Try.prog 57 0 ([.agg #[.int .i64 0, .int .i64 1], .agg #[.int .i64 1, .int .i64 0], .agg #[.int .i64 0, .int .i64 0]]) [] (.int .i64 (-1)) [] := by
  refine ac_in Try.func57 (fun w0 W pin => ?_)
  refine aw_p 3 (
    .a 4 1 <| .nil _ _) ?_
  refine aw_p 7 (
    .a 3 4 <| .p (does_c (au_terrkeep1_28)) <| .p (does_c (au_terrkeep1_24)) <| .a 1 4 <| .nil _ _) ?_
  refine aw_rt ?_
  exact en_ret [.int .i64 (-1)] (by kernel_rfl)
theorem au_terrkeep1_30  :
    AC Try.prog 118 0 ([.agg #[.int .i64 0, .int .i64 1], .agg #[.int .i64 1, .int .i64 1]]) [] (.agg #[.int .i64 1, .int .i64 0]) [] := by
  refine ac_in Try.func118 (fun w0 W pin => ?_)
  refine aw_p 3 (
    .a 3 1 <| .nil _ _) ?_
  refine aw_d 7 (
    .a 1 4 <| .p (does_c (au_terrkeep1_12)) <| .a 1 4 <| .p (does_c (au_terrkeep1_11)) <| .a 2 4 <| .nil _ _) ?_
  refine aw_p 15 (
    .a 12 4 <| .nil _ _) ?_
  refine aw_rt ?_
  exact en_ret [.agg #[.int .i64 1, .int .i64 0]] (by kernel_rfl)
theorem au_terrkeep1_31  :
    AC Try.prog 87 0 ([.agg #[.int .i64 0, .int .i64 1], .agg #[.int .i64 1, .int .i64 0], .agg #[.int .i64 1, .int .i64 1]]) [] (.int .i64 1) [] := by
  refine ac_in Try.func87 (fun w0 W pin => ?_)
  refine aw_p 3 (
    .a 4 1 <| .nil _ _) ?_
  refine aw_d 7 (
    .a 2 4 <| .p (does_c (au_terrkeep1_26)) <| .a 2 4 <| .p (does_c (au_terrkeep1_30)) <| .a 4 4 <| .nil _ _) ?_
  refine aw_p 15 (
    .a 12 6 <| .nil _ _) ?_
  refine aw_w [(6, .int .i64 1)] [] ?_
  refine aw_rt ?_
  exact en_ret [.int .i64 1] (by kernel_rfl)
theorem au_terrkeep1_32  :
    AC Try.prog 57 0 ([.agg #[.int .i64 0, .int .i64 1], .agg #[.int .i64 1, .int .i64 0], .agg #[.int .i64 1, .int .i64 1]]) [] (.int .i64 1) [] := by
  refine ac_in Try.func57 (fun w0 W pin => ?_)
  refine aw_p 3 (
    .a 4 1 <| .nil _ _) ?_
  refine aw_p 7 (
    .a 3 4 <| .p (does_c (au_terrkeep1_31)) <| .p (does_c (au_terrkeep1_19)) <| .a 1 4 <| .nil _ _) ?_
  refine aw_rt ?_
  exact en_ret [.int .i64 1] (by kernel_rfl)
theorem au_terrkeep1_33  :
    AC Try.prog 109 0 ([.agg #[.int .i64 0, .int .i64 0], .agg #[.int .i64 1, .int .i64 1], .agg #[.int .i64 0, .int .i64 1], .agg #[.int .i64 1, .int .i64 0]]) [] (.int .i64 1) [] := by
  refine ac_in Try.func109 (fun w0 W pin => ?_)
  refine aw_p 3 (
    .a 5 1 <| .nil _ _) ?_
  refine aw_d 7 (
    .a 1 5 <| .p (does_c (au_terrkeep1_9)) <| .a 1 5 <| .p (does_c (au_terrkeep1_11)) <| .a 1 5 <| .p (does_c (au_terrkeep1_12)) <| .a 1 5 <| .p (does_c (au_terrkeep1_13)) <| .a 4 5 <| .nil _ _) ?_
  refine aw_sq 14 15 ?_
  refine aw_d 29 (
    .a 3 5 <| .p (does_c (au_terrkeep1_20)) <| .a 3 5 <| .p (does_c (au_terrkeep1_25)) <| .a 6 5 <| .p (does_c (au_terrkeep1_29)) <| .a 3 5 <| .p (does_c (au_terrkeep1_32)) <| .a 3 5 <| .nil _ _) ?_
  refine aw_w [(4, .pointer (some ⟨1, 0, none⟩)), (5, .pointer (some ⟨2, 0, none⟩)), (6, .pointer (some ⟨3, 0, none⟩)), (7, .pointer (some ⟨4, 0, none⟩)), (8, .int .i64 0), (38, .bool true)] [(1, ⟨[.int .i64 0, .int .i64 0], 28, true, 2⟩), (2, ⟨[.int .i64 1, .int .i64 1], 28, true, 2⟩), (3, ⟨[.int .i64 0, .int .i64 1], 28, true, 2⟩), (4, ⟨[.int .i64 1, .int .i64 0], 28, true, 2⟩)] ?_
  refine aw_tr 58 ?_
  refine aw_p 117 (
    .a 1 5 <| .nil _ _) ?_
  refine aw_rt ?_
  refine then_ret ?_
  exact en_ret [.int .i64 1] (by kernel_rfl)
theorem au_terrkeep1_34  :
    AC Try.prog 56 0 ([.agg #[.int .i64 0, .int .i64 1], .agg #[.int .i64 1, .int .i64 0], .agg #[.int .i64 0, .int .i64 0]]) [] (.bool false) [] := by
  refine ac_in Try.func56 (fun w0 W pin => ?_)
  refine aw_p 3 (
    .a 4 1 <| .nil _ _) ?_
  refine aw_p 7 (
    .a 3 4 <| .p (does_c (au_terrkeep1_29)) <| .a 9 4 <| .nil _ _) ?_
  refine aw_rt ?_
  exact en_ret [.bool false] (by kernel_rfl)
theorem au_terrkeep1_35  :
    AC Try.prog 136 1 ([.agg #[.int .i64 0, .int .i64 0], .agg #[.int .i64 0, .int .i64 1], .agg #[.int .i64 1, .int .i64 0], .pointer (some ⟨0, 0, none⟩)]) [(0, ⟨[.slice none 0 0], 30, true, 1⟩)] (.tuple #[]) [(0, ⟨[.slice none 0 0], 30, true, 1⟩)] := by
  refine ac_in Try.func136 (fun w0 W pin => ?_)
  refine aw_p 3 (
    .a 3 1 <| .nil _ _) ?_
  refine aw_sq 6 7 ?_
  refine aw_p 13 (
    .a 3 4 <| .p (does_c (au_terrkeep1_34)) <| .a 1 4 <| .nil _ _) ?_
  refine aw_tr 26 ?_
  refine aw_rt ?_
  refine then_ret ?_
  exact en_ret [] (by kernel_rfl)
theorem au_terrkeep1_36  :
    AC Try.prog 56 0 ([.agg #[.int .i64 0, .int .i64 1], .agg #[.int .i64 1, .int .i64 0], .agg #[.int .i64 1, .int .i64 1]]) [] (.bool false) [] := by
  refine ac_in Try.func56 (fun w0 W pin => ?_)
  refine aw_p 3 (
    .a 4 1 <| .nil _ _) ?_
  refine aw_p 7 (
    .a 3 4 <| .p (does_c (au_terrkeep1_32)) <| .a 9 4 <| .nil _ _) ?_
  refine aw_rt ?_
  exact en_ret [.bool false] (by kernel_rfl)
theorem au_terrkeep1_37  :
    AC Try.prog 136 1 ([.agg #[.int .i64 1, .int .i64 1], .agg #[.int .i64 0, .int .i64 1], .agg #[.int .i64 1, .int .i64 0], .pointer (some ⟨0, 0, none⟩)]) [(0, ⟨[.slice none 0 0], 30, true, 1⟩)] (.tuple #[]) [(0, ⟨[.slice none 0 0], 30, true, 1⟩)] := by
  refine ac_in Try.func136 (fun w0 W pin => ?_)
  refine aw_p 3 (
    .a 3 1 <| .nil _ _) ?_
  refine aw_sq 6 7 ?_
  refine aw_p 13 (
    .a 3 4 <| .p (does_c (au_terrkeep1_36)) <| .a 1 4 <| .nil _ _) ?_
  refine aw_tr 26 ?_
  refine aw_rt ?_
  refine then_ret ?_
  exact en_ret [] (by kernel_rfl)
theorem au_terrkeep1_38  :
    AC Try.prog 56 0 ([.agg #[.int .i64 0, .int .i64 0], .agg #[.int .i64 1, .int .i64 1], .agg #[.int .i64 0, .int .i64 1]]) [] (.bool false) [] := by
  refine ac_in Try.func56 (fun w0 W pin => ?_)
  refine aw_p 3 (
    .a 4 1 <| .nil _ _) ?_
  refine aw_p 7 (
    .a 3 4 <| .p (does_c (au_terrkeep1_20)) <| .a 9 4 <| .nil _ _) ?_
  refine aw_rt ?_
  exact en_ret [.bool false] (by kernel_rfl)
theorem au_terrkeep1_39  :
    AC Try.prog 136 1 ([.agg #[.int .i64 0, .int .i64 1], .agg #[.int .i64 0, .int .i64 0], .agg #[.int .i64 1, .int .i64 1], .pointer (some ⟨0, 0, none⟩)]) [(0, ⟨[.slice none 0 0], 30, true, 1⟩)] (.tuple #[]) [(0, ⟨[.slice none 0 0], 30, true, 1⟩)] := by
  refine ac_in Try.func136 (fun w0 W pin => ?_)
  refine aw_p 3 (
    .a 3 1 <| .nil _ _) ?_
  refine aw_sq 6 7 ?_
  refine aw_p 13 (
    .a 3 4 <| .p (does_c (au_terrkeep1_38)) <| .a 1 4 <| .nil _ _) ?_
  refine aw_tr 26 ?_
  refine aw_rt ?_
  refine then_ret ?_
  exact en_ret [] (by kernel_rfl)
theorem au_terrkeep1_40  :
    AC Try.prog 56 0 ([.agg #[.int .i64 0, .int .i64 0], .agg #[.int .i64 1, .int .i64 1], .agg #[.int .i64 1, .int .i64 0]]) [] (.bool false) [] := by
  refine ac_in Try.func56 (fun w0 W pin => ?_)
  refine aw_p 3 (
    .a 4 1 <| .nil _ _) ?_
  refine aw_p 7 (
    .a 3 4 <| .p (does_c (au_terrkeep1_25)) <| .a 9 4 <| .nil _ _) ?_
  refine aw_rt ?_
  exact en_ret [.bool false] (by kernel_rfl)
theorem au_terrkeep1_41  :
    AC Try.prog 136 1 ([.agg #[.int .i64 1, .int .i64 0], .agg #[.int .i64 0, .int .i64 0], .agg #[.int .i64 1, .int .i64 1], .pointer (some ⟨0, 0, none⟩)]) [(0, ⟨[.slice none 0 0], 30, true, 1⟩)] (.tuple #[]) [(0, ⟨[.slice none 0 0], 30, true, 1⟩)] := by
  refine ac_in Try.func136 (fun w0 W pin => ?_)
  refine aw_p 3 (
    .a 3 1 <| .nil _ _) ?_
  refine aw_sq 6 7 ?_
  refine aw_p 13 (
    .a 3 4 <| .p (does_c (au_terrkeep1_40)) <| .a 1 4 <| .nil _ _) ?_
  refine aw_tr 26 ?_
  refine aw_rt ?_
  refine then_ret ?_
  exact en_ret [] (by kernel_rfl)
theorem au_terrkeep1_42  :
    AC Try.prog 110 0 ([.agg #[.int .i64 0, .int .i64 0], .agg #[.int .i64 1, .int .i64 1], .agg #[.int .i64 0, .int .i64 1], .agg #[.int .i64 1, .int .i64 0]]) [] (.slice none 0 0) [] := by
  refine ac_in Try.func110 (fun w0 W pin => ?_)
  refine aw_p 3 (
    .a 5 1 <| .nil _ _) ?_
  refine aw_p 7 (
    .a 1 5 <| .nil _ _) ?_
  refine aw_p 15 (
    .a 2 6 <| .nil _ _) ?_
  refine aw_p 31 (
    .a 4 6 <| .p (does_k [5] (au_terrkeep1_35)) <| .nil _ _) ?_
  refine aw_p 63 (
    .a 4 6 <| .p (does_k [5] (au_terrkeep1_37)) <| .nil _ _) ?_
  refine aw_p 127 (
    .a 4 6 <| .p (does_k [5] (au_terrkeep1_39)) <| .nil _ _) ?_
  refine aw_p 255 (
    .a 4 6 <| .p (does_k [5] (au_terrkeep1_41)) <| .nil _ _) ?_
  refine aw_w [(8, .slice none 0 0), (9, .pointer (some ⟨5, 0, none⟩))] [(5, ⟨[.slice none 0 0], 30, true, 1⟩)] ?_
  refine aw_p 511 (
    .a 2 6 <| .nil _ _) ?_
  refine aw_rt ?_
  exact en_ret [.slice none 0 0] (by kernel_rfl)
theorem au_terrkeep1_43  :
    AC Try.prog 113 0 ([.int .u64 1, .int .u64 1]) [] (.tuple #[.int .u64 0, .int .u64 1]) [] := by
  refine ac_in Try.func113 (fun w0 W pin => ?_)
  refine aw_p 3 (
    .a 2 1 <| .nil _ _) ?_
  refine aw_p 7 (
    .a 3 1 <| .nil _ _) ?_
  refine aw_p 15 (
    .a 3 1 <| .nil _ _) ?_
  refine aw_p 31 (
    .a 3 1 <| .nil _ _) ?_
  refine aw_p 63 (
    .a 3 1 <| .nil _ _) ?_
  refine aw_p 127 (
    .a 4 1 <| .nil _ _) ?_
  refine aw_p 255 (
    .a 7 1 <| .nil _ _) ?_
  refine aw_w [(0, .int .u64 1), (1, .int .u64 1), (4, .int .u64 0), (5, .int .u64 0), (6, .int .u64 1), (7, .int .u64 0), (9, .int .u64 0), (11, .int .u64 0)] [] ?_
  refine aw_p 511 (
    .a 3 1 <| .nil _ _) ?_
  refine aw_p 1023 (
    .a 3 1 <| .nil _ _) ?_
  refine aw_p 2047 (
    .a 6 1 <| .nil _ _) ?_
  refine aw_p 4095 (
    .a 9 1 <| .nil _ _) ?_
  refine aw_p 8191 (
    .a 4 1 <| .nil _ _) ?_
  refine aw_w [(4, .int .u64 0), (5, .int .u64 1)] [] ?_
  refine aw_rt ?_
  exact en_ret [.int .u64 0, .int .u64 1] (by kernel_rfl)
theorem au_terrkeep1_44  :
    AC Try.prog 76 0 ([.int .i64 1, .int .i64 1]) [] (.agg #[.int .i64 0, .int .u64 1]) [] := by
  refine ac_in Try.func76 (fun w0 W pin => ?_)
  refine aw_p 3 (
    .a 1 1 <| .nil _ _) ?_
  refine aw_p 7 (
    .a 4 2 <| .p (does_c (au_terrkeep1_43)) <| .a 5 2 <| .nil _ _) ?_
  refine aw_sq 14 15 ?_
  refine aw_p 29 (
    .a 2 2 <| .nil _ _) ?_
  refine aw_fl 59 ?_
  refine aw_sk ?_
  refine then_normal ?_
  refine aw_sq 30 31 ?_
  refine aw_p 61 (
    .a 2 2 <| .nil _ _) ?_
  refine aw_fl 123 ?_
  refine aw_sk ?_
  refine then_normal ?_
  refine aw_p 63 (
    .a 5 2 <| .nil _ _) ?_
  refine aw_rt ?_
  exact en_ret [.agg #[.int .i64 0, .int .u64 1]] (by kernel_rfl)
theorem au_terrkeep1_45  :
    AC Try.prog 161 0 ([.int .u64 0, .int .u64 1, .int .u64 2]) [] (.tuple #[.int .u64 0, .int .u64 1]) [] := by
  refine ac_in Try.func161 (fun w0 W pin => ?_)
  refine aw_p 3 (
    .a 2 1 <| .nil _ _) ?_
  refine aw_sq 6 7 ?_
  refine aw_p 13 (
    .a 2 1 <| .nil _ _) ?_
  refine aw_fl 27 ?_
  refine aw_sk ?_
  refine then_normal ?_
  refine aw_sq 14 15 ?_
  refine aw_p 29 (
    .a 3 1 <| .nil _ _) ?_
  refine aw_fl 59 ?_
  refine aw_sk ?_
  refine then_normal ?_
  refine aw_sq 30 31 ?_
  refine aw_p 61 (
    .a 2 1 <| .nil _ _) ?_
  refine aw_tr 122 ?_
  refine aw_d 245 (
    .a 8 1 <| .nil _ _) ?_
  refine aw_rt ?_
  refine then_ret ?_
  exact en_ret [.int .u64 0, .int .u64 1] (by kernel_rfl)
theorem au_terrkeep1_46  :
    AC Try.prog 138 0 ([.agg #[.int .i64 0, .int .u64 1], .int .i64 2]) [] (.tuple #[.agg #[.int .i64 0, .int .u64 0], .int .i64 1, .int .i64 0]) [] := by
  refine ac_in Try.func138 (fun w0 W pin => ?_)
  refine aw_p 3 (
    .a 4 1 <| .nil _ _) ?_
  refine aw_sq 6 7 ?_
  refine aw_p 13 (
    .a 2 3 <| .nil _ _) ?_
  refine aw_fl 27 ?_
  refine aw_sk ?_
  refine then_normal ?_
  refine aw_p 15 (
    .a 4 3 <| .nil _ _) ?_
  refine aw_sq 30 31 ?_
  refine aw_p 61 (
    .a 1 3 <| .nil _ _) ?_
  refine aw_fl 123 ?_
  refine aw_sk ?_
  refine then_normal ?_
  refine aw_d 63 (
    .a 14 3 <| .nil _ _) ?_
  refine aw_w [(1, .int .i64 2), (2, .pointer (some ⟨1, 0, none⟩)), (4, .pointer (some ⟨2, 0, none⟩)), (5, .int .i64 0), (6, .int .i64 0), (7, .bool false), (8, .int .u64 0), (9, .int .u64 0)] [(1, ⟨[.int .i64 0, .int .u64 1], 95, true, 2⟩), (2, ⟨[.int .i64 0, .int .u64 0], 95, true, 2⟩)] ?_
  refine aw_p 127 (
    .a 5 3 <| .p (does_c (au_terrkeep1_45)) <| .a 5 3 <| .nil _ _) ?_
  refine aw_sq 254 255 ?_
  refine aw_p 509 (
    .a 1 3 <| .nil _ _) ?_
  refine aw_fl 1019 ?_
  refine aw_sk ?_
  refine then_normal ?_
  refine aw_p 511 (
    .a 9 3 <| .nil _ _) ?_
  refine aw_rt ?_
  exact en_ret [.agg #[.int .i64 0, .int .u64 0], .int .i64 1, .int .i64 0] (by kernel_rfl)
theorem au_terrkeep1_47  :
    AC Try.prog 77 0 ([.int .i64 0]) [] (.agg #[.int .i64 0, .int .u64 0]) [] := by
  refine ac_in Try.func77 (fun w0 W pin => ?_)
  refine aw_p 3 (
    .a 1 1 <| .nil _ _) ?_
  refine aw_p 7 (
    .a 6 2 <| .nil _ _) ?_
  refine aw_rt ?_
  exact en_ret [.agg #[.int .i64 0, .int .u64 0]] (by kernel_rfl)
theorem au_terrkeep1_48  :
    AC Try.prog 139 0 ([.agg #[.int .i64 0, .int .u64 0]]) [] (.tuple #[.int .i64 0, .int .i64 0]) [] := by
  refine ac_in Try.func139 (fun w0 W pin => ?_)
  refine aw_p 3 (
    .a 3 1 <| .nil _ _) ?_
  refine aw_sq 6 7 ?_
  refine aw_d 13 (
    .a 4 2 <| .p (does_c (au_terrkeep1_47)) <| .p (does_e false ((show (!((0 == 0) && ((0 == 0) && true))) = false from by decide))) <| .nil _ _) ?_
  refine aw_fl 27 ?_
  refine aw_sk ?_
  refine then_normal ?_
  refine aw_p 15 (
    .a 5 2 <| .nil _ _) ?_
  refine aw_rt ?_
  exact en_ret [.int .i64 0, .int .i64 0] (by kernel_rfl)
theorem au_terrkeep1_49  :
    AC Try.prog 162 0 ([.int .i64 1]) [] (.int .u64 1) [] := by
  refine ac_in Try.func162 (fun w0 W pin => ?_)
  refine aw_p 3 (
    .a 1 1 <| .nil _ _) ?_
  refine aw_sq 6 7 ?_
  refine aw_p 13 (
    .a 2 1 <| .nil _ _) ?_
  refine aw_fl 27 ?_
  refine aw_sk ?_
  refine then_normal ?_
  refine aw_p 15 (
    .a 3 1 <| .nil _ _) ?_
  refine aw_rt ?_
  exact en_ret [.int .u64 1] (by kernel_rfl)
theorem au_terrkeep1_50  :
    AC Try.prog 162 0 ([.int .i64 2]) [] (.int .u64 2) [] := by
  refine ac_in Try.func162 (fun w0 W pin => ?_)
  refine aw_p 3 (
    .a 1 1 <| .nil _ _) ?_
  refine aw_sq 6 7 ?_
  refine aw_p 13 (
    .a 2 1 <| .nil _ _) ?_
  refine aw_fl 27 ?_
  refine aw_sk ?_
  refine then_normal ?_
  refine aw_p 15 (
    .a 3 1 <| .nil _ _) ?_
  refine aw_rt ?_
  exact en_ret [.int .u64 2] (by kernel_rfl)
theorem au_terrkeep1_51  :
    AC Try.prog 163 0 ([.int .u64 1, .int .u64 2]) [] (.int .u64 1) [] := by
  refine ac_in Try.func163 (fun w0 W pin => ?_)
  refine aw_p 3 (
    .a 1 1 <| .nil _ _) ?_
  refine aw_sq 6 7 ?_
  refine aw_bl 0 13 ?_
  refine aw_lp 27 ?_
  refine al_round ?_
  refine aw_sq 54 55 ?_
  refine aw_p 109 (
    .a 2 1 <| .nil _ _) ?_
  refine aw_tr 218 ?_
  refine aw_sk ?_
  refine then_normal ?_
  refine aw_bl 1 111 ?_
  refine aw_d1 (
    .a 6 1 <| .nil _ _) ?_
  refine block_normal ?_
  refine then_normal ?_
  refine al_round ?_
  refine aw_sq 54 55 ?_
  refine aw_p 109 (
    .a 2 1 <| .nil _ _) ?_
  refine aw_tr 218 ?_
  refine aw_sk ?_
  refine then_normal ?_
  refine aw_bl 1 111 ?_
  refine aw_d1 (
    .a 6 1 <| .nil _ _) ?_
  refine block_normal ?_
  refine then_normal ?_
  refine al_round ?_
  refine aw_sq 54 55 ?_
  refine aw_p 109 (
    .a 2 1 <| .nil _ _) ?_
  refine aw_fl 219 ?_
  refine aw_ex 0 ?_
  refine then_exit ?_
  refine then_exit ?_
  refine block_exit ?_
  refine then_normal ?_
  refine aw_p 15 (
    .a 2 1 <| .nil _ _) ?_
  refine aw_rt ?_
  exact en_ret [.int .u64 1] (by kernel_rfl)
theorem au_terrkeep1_52  :
    AC Try.prog 164 0 ([.bool false, .int .u64 1, .int .u64 2]) [] (.tuple #[.agg #[.int .i64 1, .int .i64 2], .int .i64 0]) [] := by
  refine ac_in Try.func164 (fun w0 W pin => ?_)
  refine aw_p 3 (
    .a 2 1 <| .nil _ _) ?_
  refine aw_sq 6 7 ?_
  refine aw_p 13 (
    .a 6 2 <| .nil _ _) ?_
  refine aw_fl 27 ?_
  refine aw_sk ?_
  refine then_normal ?_
  refine aw_sq 14 15 ?_
  refine aw_p 29 (
    .a 1 2 <| .nil _ _) ?_
  refine aw_fl 59 ?_
  refine aw_sk ?_
  refine then_normal ?_
  refine aw_p 31 (
    .a 7 2 <| .nil _ _) ?_
  refine aw_rt ?_
  exact en_ret [.agg #[.int .i64 1, .int .i64 2], .int .i64 0] (by kernel_rfl)
theorem au_terrkeep1_53  :
    AC Try.prog 140 0 ([.int .i64 1, .int .i64 2]) [] (.tuple #[.agg #[.int .i64 1, .int .i64 2], .int .i64 0]) [] := by
  refine ac_in Try.func140 (fun w0 W pin => ?_)
  refine aw_p 3 (
    .a 2 1 <| .nil _ _) ?_
  refine aw_sq 6 7 ?_
  refine aw_p 13 (
    .a 2 2 <| .nil _ _) ?_
  refine aw_fl 27 ?_
  refine aw_sk ?_
  refine then_normal ?_
  refine aw_p 15 (
    .a 1 2 <| .p (does_c (au_terrkeep1_49)) <| .a 1 2 <| .p (does_c (au_terrkeep1_50)) <| .a 2 2 <| .nil _ _) ?_
  refine aw_p 31 (
    .a 2 2 <| .p (does_c (au_terrkeep1_51)) <| .a 1 2 <| .nil _ _) ?_
  refine aw_d 63 (
    .a 15 2 <| .p (does_c (au_terrkeep1_52)) <| .a 4 2 <| .nil _ _) ?_
  refine aw_w [(4, .pointer (some ⟨1, 0, none⟩)), (5, .int .i64 0)] [(1, ⟨[.int .i64 1, .int .i64 2], 88, true, 2⟩)] ?_
  refine aw_rt ?_
  exact en_ret [.agg #[.int .i64 1, .int .i64 2], .int .i64 0] (by kernel_rfl)
theorem au_terrkeep1_54  :
    AC Try.prog 137 0 ([.int .i64 0]) [] (.agg #[.int .i64 0, .int .i64 1]) [] := by
  refine ac_in Try.func137 (fun w0 W pin => ?_)
  refine aw_p 3 (
    .a 1 1 <| .nil _ _) ?_
  refine aw_p 7 (
    .a 4 2 <| .nil _ _) ?_
  refine aw_rt ?_
  exact en_ret [.agg #[.int .i64 0, .int .i64 1]] (by kernel_rfl)
theorem au_terrkeep1_55  :
    AC Try.prog 162 0 ([.int .i64 0]) [] (.int .u64 0) [] := by
  refine ac_in Try.func162 (fun w0 W pin => ?_)
  refine aw_p 3 (
    .a 1 1 <| .nil _ _) ?_
  refine aw_sq 6 7 ?_
  refine aw_p 13 (
    .a 2 1 <| .nil _ _) ?_
  refine aw_fl 27 ?_
  refine aw_sk ?_
  refine then_normal ?_
  refine aw_p 15 (
    .a 3 1 <| .nil _ _) ?_
  refine aw_rt ?_
  exact en_ret [.int .u64 0] (by kernel_rfl)
theorem au_terrkeep1_56  :
    AC Try.prog 163 0 ([.int .u64 0, .int .u64 1]) [] (.int .u64 1) [] := by
  refine ac_in Try.func163 (fun w0 W pin => ?_)
  refine aw_p 3 (
    .a 1 1 <| .nil _ _) ?_
  refine aw_sq 6 7 ?_
  refine aw_bl 0 13 ?_
  refine aw_lp 27 ?_
  refine al_round ?_
  refine aw_sq 54 55 ?_
  refine aw_p 109 (
    .a 2 1 <| .nil _ _) ?_
  refine aw_tr 218 ?_
  refine aw_sk ?_
  refine then_normal ?_
  refine aw_bl 1 111 ?_
  refine aw_d1 (
    .a 6 1 <| .nil _ _) ?_
  refine block_normal ?_
  refine then_normal ?_
  refine al_round ?_
  refine aw_sq 54 55 ?_
  refine aw_p 109 (
    .a 2 1 <| .nil _ _) ?_
  refine aw_fl 219 ?_
  refine aw_ex 0 ?_
  refine then_exit ?_
  refine then_exit ?_
  refine block_exit ?_
  refine then_normal ?_
  refine aw_p 15 (
    .a 2 1 <| .nil _ _) ?_
  refine aw_rt ?_
  exact en_ret [.int .u64 1] (by kernel_rfl)
theorem au_terrkeep1_57  :
    AC Try.prog 176 0 ([.agg #[.int .i64 0, .int .i64 1]]) [] (.bool true) [] := by
  refine ac_in Try.func176 (fun w0 W pin => ?_)
  refine aw_p 3 (
    .a 2 1 <| .nil _ _) ?_
  refine aw_d 7 (
    .a 11 2 <| .p (does_c (au_terrkeep1_55)) <| .a 2 2 <| .p (does_c (au_terrkeep1_49)) <| .p (does_c (au_terrkeep1_56)) <| .a 3 2 <| .nil _ _) ?_
  refine aw_rt ?_
  exact en_ret [.bool true] (by kernel_rfl)
theorem au_terrkeep1_58  :
    AC Try.prog 165 0 ([.agg #[.int .i64 0, .int .i64 1]]) [] (.agg #[.int .i64 0, .int .i64 1]) [] := by
  refine ac_in Try.func165 (fun w0 W pin => ?_)
  refine aw_p 3 (
    .a 2 1 <| .nil _ _) ?_
  refine aw_sq 6 7 ?_
  refine aw_p 13 (
    .a 1 3 <| .p (does_c (au_terrkeep1_57)) <| .a 1 3 <| .nil _ _) ?_
  refine aw_fl 27 ?_
  refine aw_sk ?_
  refine then_normal ?_
  refine aw_p 15 (
    .a 2 3 <| .nil _ _) ?_
  refine aw_rt ?_
  exact en_ret [.agg #[.int .i64 0, .int .i64 1]] (by kernel_rfl)
theorem au_terrkeep1_59  :
    AC Try.prog 176 0 ([.agg #[.int .i64 1, .int .i64 2]]) [] (.bool true) [] := by
  refine ac_in Try.func176 (fun w0 W pin => ?_)
  refine aw_p 3 (
    .a 2 1 <| .nil _ _) ?_
  refine aw_d 7 (
    .a 11 2 <| .p (does_c (au_terrkeep1_49)) <| .a 2 2 <| .p (does_c (au_terrkeep1_50)) <| .p (does_c (au_terrkeep1_51)) <| .a 3 2 <| .nil _ _) ?_
  refine aw_rt ?_
  exact en_ret [.bool true] (by kernel_rfl)
theorem au_terrkeep1_60  :
    AC Try.prog 165 0 ([.agg #[.int .i64 1, .int .i64 2]]) [] (.agg #[.int .i64 1, .int .i64 2]) [] := by
  refine ac_in Try.func165 (fun w0 W pin => ?_)
  refine aw_p 3 (
    .a 2 1 <| .nil _ _) ?_
  refine aw_sq 6 7 ?_
  refine aw_p 13 (
    .a 1 3 <| .p (does_c (au_terrkeep1_59)) <| .a 1 3 <| .nil _ _) ?_
  refine aw_fl 27 ?_
  refine aw_sk ?_
  refine then_normal ?_
  refine aw_p 15 (
    .a 2 3 <| .nil _ _) ?_
  refine aw_rt ?_
  exact en_ret [.agg #[.int .i64 1, .int .i64 2]] (by kernel_rfl)
theorem au_terrkeep1_61  :
    AC Try.prog 113 0 ([.int .u64 0, .int .u64 2]) [] (.tuple #[.int .u64 0, .int .u64 0]) [] := by
  refine ac_in Try.func113 (fun w0 W pin => ?_)
  refine aw_p 3 (
    .a 2 1 <| .nil _ _) ?_
  refine aw_p 7 (
    .a 3 1 <| .nil _ _) ?_
  refine aw_p 15 (
    .a 3 1 <| .nil _ _) ?_
  refine aw_p 31 (
    .a 3 1 <| .nil _ _) ?_
  refine aw_p 63 (
    .a 3 1 <| .nil _ _) ?_
  refine aw_p 127 (
    .a 4 1 <| .nil _ _) ?_
  refine aw_p 255 (
    .a 7 1 <| .nil _ _) ?_
  refine aw_w [(0, .int .u64 0), (1, .int .u64 2), (4, .int .u64 0), (5, .int .u64 0), (6, .int .u64 0), (7, .int .u64 0), (9, .int .u64 0), (11, .int .u64 0)] [] ?_
  refine aw_p 511 (
    .a 3 1 <| .nil _ _) ?_
  refine aw_p 1023 (
    .a 3 1 <| .nil _ _) ?_
  refine aw_p 2047 (
    .a 6 1 <| .nil _ _) ?_
  refine aw_p 4095 (
    .a 9 1 <| .nil _ _) ?_
  refine aw_p 8191 (
    .a 4 1 <| .nil _ _) ?_
  refine aw_w [(4, .int .u64 0), (5, .int .u64 0)] [] ?_
  refine aw_rt ?_
  exact en_ret [.int .u64 0, .int .u64 0] (by kernel_rfl)
theorem au_terrkeep1_62  :
    AC Try.prog 76 0 ([.int .i64 0, .int .i64 2]) [] (.agg #[.int .i64 0, .int .u64 0]) [] := by
  refine ac_in Try.func76 (fun w0 W pin => ?_)
  refine aw_p 3 (
    .a 1 1 <| .nil _ _) ?_
  refine aw_p 7 (
    .a 4 2 <| .p (does_c (au_terrkeep1_61)) <| .a 5 2 <| .nil _ _) ?_
  refine aw_sq 14 15 ?_
  refine aw_p 29 (
    .a 2 2 <| .nil _ _) ?_
  refine aw_fl 59 ?_
  refine aw_sk ?_
  refine then_normal ?_
  refine aw_sq 30 31 ?_
  refine aw_p 61 (
    .a 2 2 <| .nil _ _) ?_
  refine aw_fl 123 ?_
  refine aw_sk ?_
  refine then_normal ?_
  refine aw_p 63 (
    .a 5 2 <| .nil _ _) ?_
  refine aw_rt ?_
  exact en_ret [.agg #[.int .i64 0, .int .u64 0]] (by kernel_rfl)
theorem au_terrkeep1_63  :
    AC Try.prog 166 0 ([.agg #[.int .i64 0, .int .u64 0], .agg #[.int .i64 0, .int .u64 1]]) [] (.agg #[.int .i64 0, .int .u64 1]) [] := by
  refine ac_in Try.func166 (fun w0 W pin => ?_)
  refine aw_p 3 (
    .a 3 1 <| .nil _ _) ?_
  refine aw_p 7 (
    .a 4 4 <| .p (does_val (v' := .tuple #[.int .u64 1, .int .u64 0]) (does_x (run_add64 Try.func177 (by kernel_rfl) (by kernel_rfl) (by kernel_rfl) (by kernel_rfl) 0 1 0 (by omega) (by omega) (by omega) (by omega))) (by kernel_rfl)) <| .a 5 4 <| .nil _ _) ?_
  refine aw_p 15 (
    .a 7 4 <| .p (does_val (v' := .tuple #[.int .u64 0, .int .u64 0]) (does_x (run_add64 Try.func177 (by kernel_rfl) (by kernel_rfl) (by kernel_rfl) (by kernel_rfl) 0 0 0 (by omega) (by omega) (by omega) (by omega))) (by kernel_rfl)) <| .a 5 4 <| .nil _ _) ?_
  refine aw_w [(4, .pointer (some ⟨3, 0, none⟩)), (5, .int .u64 1), (7, .int .u64 0)] [(3, ⟨[.int .i64 0, .int .u64 0], 95, true, 2⟩)] ?_
  refine aw_p 31 (
    .a 5 4 <| .nil _ _) ?_
  refine aw_rt ?_
  exact en_ret [.agg #[.int .i64 0, .int .u64 1]] (by kernel_rfl)
theorem au_terrkeep1_64  :
    AC Try.prog 161 0 ([.int .u64 0, .int .u64 1, .int .u64 1]) [] (.tuple #[.int .u64 1, .int .u64 0]) [] := by
  refine ac_in Try.func161 (fun w0 W pin => ?_)
  refine aw_p 3 (
    .a 2 1 <| .nil _ _) ?_
  refine aw_sq 6 7 ?_
  refine aw_p 13 (
    .a 2 1 <| .nil _ _) ?_
  refine aw_fl 27 ?_
  refine aw_sk ?_
  refine then_normal ?_
  refine aw_sq 14 15 ?_
  refine aw_p 29 (
    .a 3 1 <| .nil _ _) ?_
  refine aw_fl 59 ?_
  refine aw_sk ?_
  refine then_normal ?_
  refine aw_sq 30 31 ?_
  refine aw_p 61 (
    .a 2 1 <| .nil _ _) ?_
  refine aw_tr 122 ?_
  refine aw_d 245 (
    .a 8 1 <| .nil _ _) ?_
  refine aw_rt ?_
  refine then_ret ?_
  exact en_ret [.int .u64 1, .int .u64 0] (by kernel_rfl)
theorem au_terrkeep1_65  :
    AC Try.prog 138 0 ([.agg #[.int .i64 0, .int .u64 1], .int .i64 1]) [] (.tuple #[.agg #[.int .i64 0, .int .u64 1], .int .i64 0, .int .i64 0]) [] := by
  refine ac_in Try.func138 (fun w0 W pin => ?_)
  refine aw_p 3 (
    .a 4 1 <| .nil _ _) ?_
  refine aw_sq 6 7 ?_
  refine aw_p 13 (
    .a 2 3 <| .nil _ _) ?_
  refine aw_fl 27 ?_
  refine aw_sk ?_
  refine then_normal ?_
  refine aw_p 15 (
    .a 4 3 <| .nil _ _) ?_
  refine aw_sq 30 31 ?_
  refine aw_p 61 (
    .a 1 3 <| .nil _ _) ?_
  refine aw_fl 123 ?_
  refine aw_sk ?_
  refine then_normal ?_
  refine aw_d 63 (
    .a 14 3 <| .nil _ _) ?_
  refine aw_w [(1, .int .i64 1), (2, .pointer (some ⟨1, 0, none⟩)), (4, .pointer (some ⟨2, 0, none⟩)), (5, .int .i64 0), (6, .int .i64 0), (7, .bool false), (8, .int .u64 0), (9, .int .u64 0)] [(1, ⟨[.int .i64 0, .int .u64 1], 95, true, 2⟩), (2, ⟨[.int .i64 0, .int .u64 0], 95, true, 2⟩)] ?_
  refine aw_p 127 (
    .a 5 3 <| .p (does_c (au_terrkeep1_64)) <| .a 5 3 <| .nil _ _) ?_
  refine aw_sq 254 255 ?_
  refine aw_p 509 (
    .a 1 3 <| .nil _ _) ?_
  refine aw_fl 1019 ?_
  refine aw_sk ?_
  refine then_normal ?_
  refine aw_p 511 (
    .a 9 3 <| .nil _ _) ?_
  refine aw_rt ?_
  exact en_ret [.agg #[.int .i64 0, .int .u64 1], .int .i64 0, .int .i64 0] (by kernel_rfl)
theorem au_terrkeep1_66  :
    AC Try.prog 167 0 ([.agg #[.int .i64 0, .int .u64 1], .int .i64 1]) [] (.tuple #[.agg #[.int .i64 0, .int .u64 1], .int .i64 0, .int .i64 0]) [] := by
  refine ac_in Try.func167 (fun w0 W pin => ?_)
  refine aw_p 3 (
    .a 4 1 <| .nil _ _) ?_
  refine aw_p 7 (
    .a 2 3 <| .p (does_c (au_terrkeep1_65)) <| .a 6 3 <| .nil _ _) ?_
  refine aw_rt ?_
  exact en_ret [.agg #[.int .i64 0, .int .u64 1], .int .i64 0, .int .i64 0] (by kernel_rfl)
theorem au_terrkeep1_67  :
    AC Try.prog 77 0 ([.int .i64 1]) [] (.agg #[.int .i64 0, .int .u64 1]) [] := by
  refine ac_in Try.func77 (fun w0 W pin => ?_)
  refine aw_p 3 (
    .a 1 1 <| .nil _ _) ?_
  refine aw_p 7 (
    .a 6 2 <| .nil _ _) ?_
  refine aw_rt ?_
  exact en_ret [.agg #[.int .i64 0, .int .u64 1]] (by kernel_rfl)
theorem au_terrkeep1_68  :
    AC Try.prog 139 0 ([.agg #[.int .i64 0, .int .u64 1]]) [] (.tuple #[.int .i64 1, .int .i64 0]) [] := by
  refine ac_in Try.func139 (fun w0 W pin => ?_)
  refine aw_p 3 (
    .a 3 1 <| .nil _ _) ?_
  refine aw_sq 6 7 ?_
  refine aw_d 13 (
    .a 4 2 <| .p (does_c (au_terrkeep1_67)) <| .p (does_e false ((show (!((0 == 0) && ((1 == 1) && true))) = false from by decide))) <| .nil _ _) ?_
  refine aw_fl 27 ?_
  refine aw_sk ?_
  refine then_normal ?_
  refine aw_p 15 (
    .a 5 2 <| .nil _ _) ?_
  refine aw_rt ?_
  exact en_ret [.int .i64 1, .int .i64 0] (by kernel_rfl)
theorem au_terrkeep1_69  :
    AC Try.prog 113 0 ([.int .u64 1, .int .u64 2]) [] (.tuple #[.int .u64 0, .int .u64 2]) [] := by
  refine ac_in Try.func113 (fun w0 W pin => ?_)
  refine aw_p 3 (
    .a 2 1 <| .nil _ _) ?_
  refine aw_p 7 (
    .a 3 1 <| .nil _ _) ?_
  refine aw_p 15 (
    .a 3 1 <| .nil _ _) ?_
  refine aw_p 31 (
    .a 3 1 <| .nil _ _) ?_
  refine aw_p 63 (
    .a 3 1 <| .nil _ _) ?_
  refine aw_p 127 (
    .a 4 1 <| .nil _ _) ?_
  refine aw_p 255 (
    .a 7 1 <| .nil _ _) ?_
  refine aw_w [(0, .int .u64 1), (1, .int .u64 2), (4, .int .u64 0), (5, .int .u64 0), (6, .int .u64 1), (7, .int .u64 0), (9, .int .u64 0), (11, .int .u64 0)] [] ?_
  refine aw_p 511 (
    .a 3 1 <| .nil _ _) ?_
  refine aw_p 1023 (
    .a 3 1 <| .nil _ _) ?_
  refine aw_p 2047 (
    .a 6 1 <| .nil _ _) ?_
  refine aw_p 4095 (
    .a 9 1 <| .nil _ _) ?_
  refine aw_p 8191 (
    .a 4 1 <| .nil _ _) ?_
  refine aw_w [(4, .int .u64 0), (5, .int .u64 2)] [] ?_
  refine aw_rt ?_
  exact en_ret [.int .u64 0, .int .u64 2] (by kernel_rfl)
theorem au_terrkeep1_70  :
    AC Try.prog 76 0 ([.int .i64 1, .int .i64 2]) [] (.agg #[.int .i64 0, .int .u64 2]) [] := by
  refine ac_in Try.func76 (fun w0 W pin => ?_)
  refine aw_p 3 (
    .a 1 1 <| .nil _ _) ?_
  refine aw_p 7 (
    .a 4 2 <| .p (does_c (au_terrkeep1_69)) <| .a 5 2 <| .nil _ _) ?_
  refine aw_sq 14 15 ?_
  refine aw_p 29 (
    .a 2 2 <| .nil _ _) ?_
  refine aw_fl 59 ?_
  refine aw_sk ?_
  refine then_normal ?_
  refine aw_sq 30 31 ?_
  refine aw_p 61 (
    .a 2 2 <| .nil _ _) ?_
  refine aw_fl 123 ?_
  refine aw_sk ?_
  refine then_normal ?_
  refine aw_p 63 (
    .a 5 2 <| .nil _ _) ?_
  refine aw_rt ?_
  exact en_ret [.agg #[.int .i64 0, .int .u64 2]] (by kernel_rfl)
theorem au_terrkeep1_71  :
    AC Try.prog 77 0 ([.int .i64 2]) [] (.agg #[.int .i64 0, .int .u64 2]) [] := by
  refine ac_in Try.func77 (fun w0 W pin => ?_)
  refine aw_p 3 (
    .a 1 1 <| .nil _ _) ?_
  refine aw_p 7 (
    .a 6 2 <| .nil _ _) ?_
  refine aw_rt ?_
  exact en_ret [.agg #[.int .i64 0, .int .u64 2]] (by kernel_rfl)
theorem au_terrkeep1_72  :
    AC Try.prog 139 0 ([.agg #[.int .i64 0, .int .u64 2]]) [] (.tuple #[.int .i64 2, .int .i64 0]) [] := by
  refine ac_in Try.func139 (fun w0 W pin => ?_)
  refine aw_p 3 (
    .a 3 1 <| .nil _ _) ?_
  refine aw_sq 6 7 ?_
  refine aw_d 13 (
    .a 4 2 <| .p (does_c (au_terrkeep1_71)) <| .p (does_e false ((show (!((0 == 0) && ((2 == 2) && true))) = false from by decide))) <| .nil _ _) ?_
  refine aw_fl 27 ?_
  refine aw_sk ?_
  refine then_normal ?_
  refine aw_p 15 (
    .a 5 2 <| .nil _ _) ?_
  refine aw_rt ?_
  exact en_ret [.int .i64 2, .int .i64 0] (by kernel_rfl)
theorem au_terrkeep1_73  :
    AC Try.prog 141 0 ([.agg #[.int .i64 0, .int .i64 1], .agg #[.int .i64 1, .int .i64 2]]) [] (.tuple #[.agg #[.int .i64 1, .int .i64 2], .int .i64 0]) [] := by
  refine ac_in Try.func141 (fun w0 W pin => ?_)
  refine aw_p 3 (
    .a 4 1 <| .nil _ _) ?_
  refine aw_d 7 (
    .a 1 4 <| .p (does_c (au_terrkeep1_58)) <| .a 1 4 <| .p (does_c (au_terrkeep1_60)) <| .a 2 4 <| .nil _ _) ?_
  refine aw_d 15 (
    .a 2 4 <| .p (does_c (au_terrkeep1_49)) <| .a 2 4 <| .p (does_c (au_terrkeep1_50)) <| .p (does_c (au_terrkeep1_51)) <| .a 2 4 <| .nil _ _) ?_
  refine aw_d 31 (
    .a 6 4 <| .p (does_c (au_terrkeep1_62)) <| .a 6 4 <| .p (does_c (au_terrkeep1_44)) <| .p (does_c (au_terrkeep1_63)) <| .a 2 4 <| .nil _ _) ?_
  refine aw_w [(2, .pointer (some ⟨1, 0, none⟩)), (3, .pointer (some ⟨2, 0, none⟩)), (4, .pointer (some ⟨3, 0, none⟩)), (5, .int .i64 0), (6, .int .i64 1), (7, .pointer (some ⟨4, 0, none⟩))] [(1, ⟨[.int .i64 0, .int .i64 1], 88, true, 2⟩), (2, ⟨[.int .i64 1, .int .i64 2], 88, true, 2⟩), (3, ⟨[.int .i64 0, .int .i64 0], 88, true, 2⟩), (4, ⟨[.int .i64 0, .int .u64 1], 95, true, 2⟩)] ?_
  refine aw_p 63 (
    .a 2 5 <| .p (does_c (au_terrkeep1_65)) <| .a 8 5 <| .nil _ _) ?_
  refine aw_p 127 (
    .a 1 6 <| .p (does_c (au_terrkeep1_55)) <| .a 1 6 <| .p (does_c (au_terrkeep1_49)) <| .p (does_c (au_terrkeep1_56)) <| .a 2 6 <| .nil _ _) ?_
  refine aw_p 255 (
    .a 2 6 <| .p (does_c (au_terrkeep1_66)) <| .a 8 6 <| .nil _ _) ?_
  refine aw_w [(2, .pointer (some ⟨1, 0, none⟩)), (3, .pointer (some ⟨2, 0, none⟩)), (4, .pointer (some ⟨3, 0, none⟩)), (5, .int .i64 0), (6, .int .i64 1), (9, .int .i64 0), (11, .int .i64 1), (12, .pointer (some ⟨6, 0, none⟩))] [(1, ⟨[.int .i64 0, .int .i64 1], 88, true, 2⟩), (2, ⟨[.int .i64 1, .int .i64 2], 88, true, 2⟩), (3, ⟨[.int .i64 0, .int .i64 0], 88, true, 2⟩), (6, ⟨[.int .i64 0, .int .u64 1], 95, true, 2⟩)] ?_
  refine aw_p 511 (
    .a 1 7 <| .p (does_c (au_terrkeep1_68)) <| .a 5 7 <| .nil _ _) ?_
  refine aw_d 1023 (
    .a 8 7 <| .p (does_c (au_terrkeep1_70)) <| .p (does_c (au_terrkeep1_72)) <| .a 5 7 <| .nil _ _) ?_
  refine aw_sq 2046 2047 ?_
  refine aw_p 4093 (
    .a 14 7 <| .nil _ _) ?_
  refine aw_w [(4, .pointer (some ⟨3, 0, none⟩)), (5, .int .i64 0), (14, .int .i64 1), (16, .int .i64 2), (96, .bool false)] [(3, ⟨[.int .i64 0, .int .i64 0], 88, true, 2⟩)] ?_
  refine aw_fl 8187 ?_
  refine aw_sk ?_
  refine then_normal ?_
  refine aw_p 4095 (
    .a 5 4 <| .nil _ _) ?_
  refine aw_rt ?_
  exact en_ret [.agg #[.int .i64 1, .int .i64 2], .int .i64 0] (by kernel_rfl)
theorem au_terrkeep1_74  :
    AC Try.prog 112 0 ([.int .i64 0, .int .i64 1, .int .i64 1, .int .i64 2]) [] (.agg #[.int .i64 1, .int .i64 2]) [] := by
  refine ac_in Try.func112 (fun w0 W pin => ?_)
  refine aw_p 3 (
    .a 1 1 <| .nil _ _) ?_
  refine aw_p 7 (
    .a 2 2 <| .p (does_c (au_terrkeep1_44)) <| .a 1 2 <| .p (does_c (au_terrkeep1_46)) <| .a 8 2 <| .nil _ _) ?_
  refine aw_p 15 (
    .a 1 3 <| .p (does_c (au_terrkeep1_48)) <| .a 5 3 <| .nil _ _) ?_
  refine aw_p 31 (
    .a 2 3 <| .p (does_c (au_terrkeep1_53)) <| .a 6 3 <| .nil _ _) ?_
  refine aw_w [(0, .int .i64 0), (8, .pointer (some ⟨1, 0, none⟩)), (12, .int .i64 0), (14, .pointer (some ⟨3, 0, none⟩))] [(1, ⟨[.int .i64 0, .int .i64 0], 88, true, 2⟩), (3, ⟨[.int .i64 1, .int .i64 2], 88, true, 2⟩)] ?_
  refine aw_d 63 (
    .a 3 4 <| .p (does_c (au_terrkeep1_54)) <| .a 1 4 <| .p (does_c (au_terrkeep1_73)) <| .a 6 4 <| .nil _ _) ?_
  refine aw_p 127 (
    .a 2 5 <| .nil _ _) ?_
  refine aw_rt ?_
  exact en_ret [.agg #[.int .i64 1, .int .i64 2]] (by kernel_rfl)
theorem au_terrkeep1_75  :
    AC Try.prog 75 0 ([.agg #[.int .i64 0, .int .i64 0], .agg #[.int .i64 1, .int .i64 1], .agg #[.int .i64 0, .int .i64 1], .agg #[.int .i64 1, .int .i64 0]]) [] (.tuple #[.agg #[.int .i64 1, .int .i64 2, .int .i64 1, .int .i64 2], .int .i64 0]) [] := by
  refine ac_in Try.func75 (fun w0 W pin => ?_)
  refine aw_p 3 (
    .a 6 1 <| .nil _ _) ?_
  refine aw_d 7 (
    .a 1 6 <| .p (does_c (au_terrkeep1_9)) <| .a 1 6 <| .p (does_c (au_terrkeep1_11)) <| .a 1 6 <| .p (does_c (au_terrkeep1_12)) <| .a 1 6 <| .p (does_c (au_terrkeep1_13)) <| .a 4 6 <| .nil _ _) ?_
  refine aw_sq 14 15 ?_
  refine aw_p 29 (
    .a 4 6 <| .p (does_c (au_terrkeep1_33)) <| .nil _ _) ?_
  refine aw_bl 0 59 ?_
  refine aw_p 119 (
    .a 2 6 <| .nil _ _) ?_
  refine aw_w [(4, .pointer (some ⟨1, 0, none⟩)), (5, .pointer (some ⟨2, 0, none⟩)), (6, .pointer (some ⟨3, 0, none⟩)), (7, .pointer (some ⟨4, 0, none⟩)), (8, .pointer (some ⟨5, 0, none⟩)), (9, .int .i64 0), (25, .int .i64 1), (26, .bool false)] [(1, ⟨[.int .i64 0, .int .i64 0], 28, true, 2⟩), (2, ⟨[.int .i64 1, .int .i64 1], 28, true, 2⟩), (3, ⟨[.int .i64 0, .int .i64 1], 28, true, 2⟩), (4, ⟨[.int .i64 1, .int .i64 0], 28, true, 2⟩), (5, ⟨[.int .i64 0, .int .i64 0, .int .i64 0, .int .i64 0], 90, true, 4⟩)] ?_
  refine aw_fl 239 ?_
  refine aw_p 479 (
    .a 2 6 <| .nil _ _) ?_
  refine aw_fl 959 ?_
  refine aw_sk ?_
  refine block_normal ?_
  refine then_normal ?_
  refine aw_sq 30 31 ?_
  refine aw_p 61 (
    .a 4 6 <| .p (does_c (au_terrkeep1_42)) <| .a 1 6 <| .nil _ _) ?_
  refine aw_p 123 (
    .a 3 6 <| .nil _ _) ?_
  refine aw_fl 247 ?_
  refine aw_sk ?_
  refine then_normal ?_
  refine aw_p 63 (
    .a 3 6 <| .p (does_c (au_terrkeep1_28)) <| .a 1 6 <| .nil _ _) ?_
  refine aw_p 127 (
    .a 4 6 <| .p (does_c (au_terrkeep1_31)) <| .a 2 6 <| .nil _ _) ?_
  refine aw_sq 254 255 ?_
  refine aw_p 509 (
    .a 2 6 <| .nil _ _) ?_
  refine aw_w [(4, .pointer (some ⟨1, 0, none⟩)), (5, .pointer (some ⟨2, 0, none⟩)), (8, .pointer (some ⟨5, 0, none⟩)), (9, .int .i64 0), (11, .int .i64 (-1)), (12, .int .i64 (-2)), (55, .bool true)] [(1, ⟨[.int .i64 0, .int .i64 0], 28, true, 2⟩), (2, ⟨[.int .i64 1, .int .i64 1], 28, true, 2⟩), (5, ⟨[.int .i64 0, .int .i64 0, .int .i64 0, .int .i64 0], 90, true, 4⟩)] ?_
  refine aw_tr 1018 ?_
  refine aw_p1 (
    .a 6 6 <| .nil _ _) ?_
  refine then_normal ?_
  refine aw_d 511 (
    .a 9 6 <| .p (does_c (au_terrkeep1_74)) <| .a 9 6 <| .p (does_c (au_terrkeep1_74)) <| .a 3 6 <| .nil _ _) ?_
  refine aw_w [(8, .pointer (some ⟨5, 0, none⟩)), (9, .int .i64 0)] [(5, ⟨[.int .i64 1, .int .i64 2, .int .i64 1, .int .i64 2], 90, true, 4⟩)] ?_
  refine aw_rt ?_
  exact en_ret [.agg #[.int .i64 1, .int .i64 2, .int .i64 1, .int .i64 2], .int .i64 0] (by kernel_rfl)
theorem au_terrkeep1_76  :
    AC Try.prog 95 0 ([.int .i64 2, .int .i64 1048576]) [] (.int .i64 2) [] := by
  refine ac_in Try.func95 (fun w0 W pin => ?_)
  refine aw_p 3 (
    .a 1 1 <| .nil _ _) ?_
  refine aw_p 7 (
    .a 7 1 <| .nil _ _) ?_
  refine aw_rt ?_
  exact en_ret [.int .i64 2] (by kernel_rfl)
theorem au_terrkeep1_77  :
    AC Try.prog 55 0 ([.agg #[.int .i64 2, .int .i64 0]]) [] (.agg #[.int .i64 2, .int .i64 0]) [] := by
  refine ac_in Try.func55 (fun w0 W pin => ?_)
  refine aw_p 3 (
    .a 2 1 <| .nil _ _) ?_
  refine aw_d 7 (
    .a 2 3 <| .p (does_c (au_terrkeep1_76)) <| .a 2 3 <| .p (does_c (au_terrkeep1_8)) <| .a 2 3 <| .nil _ _) ?_
  refine aw_rt ?_
  exact en_ret [.agg #[.int .i64 2, .int .i64 0]] (by kernel_rfl)
theorem au_terrkeep1_78  :
    AC Try.prog 118 0 ([.agg #[.int .i64 0, .int .i64 0], .agg #[.int .i64 2, .int .i64 0]]) [] (.agg #[.int .i64 2, .int .i64 0]) [] := by
  refine ac_in Try.func118 (fun w0 W pin => ?_)
  refine aw_p 3 (
    .a 3 1 <| .nil _ _) ?_
  refine aw_d 7 (
    .a 1 4 <| .p (does_c (au_terrkeep1_9)) <| .a 1 4 <| .p (does_c (au_terrkeep1_77)) <| .a 2 4 <| .nil _ _) ?_
  refine aw_p 15 (
    .a 12 4 <| .nil _ _) ?_
  refine aw_rt ?_
  exact en_ret [.agg #[.int .i64 2, .int .i64 0]] (by kernel_rfl)
theorem au_terrkeep1_79  :
    AC Try.prog 87 0 ([.agg #[.int .i64 0, .int .i64 0], .agg #[.int .i64 2, .int .i64 0], .agg #[.int .i64 1, .int .i64 1]]) [] (.int .i64 2) [] := by
  refine ac_in Try.func87 (fun w0 W pin => ?_)
  refine aw_p 3 (
    .a 4 1 <| .nil _ _) ?_
  refine aw_d 7 (
    .a 2 4 <| .p (does_c (au_terrkeep1_78)) <| .a 2 4 <| .p (does_c (au_terrkeep1_14)) <| .a 4 4 <| .nil _ _) ?_
  refine aw_p 15 (
    .a 12 6 <| .nil _ _) ?_
  refine aw_w [(6, .int .i64 2)] [] ?_
  refine aw_rt ?_
  exact en_ret [.int .i64 2] (by kernel_rfl)
theorem au_terrkeep1_80  :
    AC Try.prog 120 0 ([.int .i64 2]) [] (.bool false) [] := by
  refine ac_in Try.func120 (fun w0 W pin => ?_)
  refine aw_p 3 (
    .a 1 1 <| .nil _ _) ?_
  refine aw_p 7 (
    .a 4 1 <| .nil _ _) ?_
  refine aw_rt ?_
  exact en_ret [.bool false] (by kernel_rfl)
theorem au_terrkeep1_81  :
    AC Try.prog 97 0 ([.int .i64 2, .int .i64 0]) [] (.int .i64 1) [] := by
  refine ac_in Try.func97 (fun w0 W pin => ?_)
  refine aw_p 3 (
    .a 1 1 <| .nil _ _) ?_
  refine aw_p 7 (
    .a 1 1 <| .p (does_c (au_terrkeep1_80)) <| .a 1 1 <| .nil _ _) ?_
  refine aw_p 15 (
    .a 1 1 <| .p (does_c (au_terrkeep1_18)) <| .a 1 1 <| .nil _ _) ?_
  refine aw_sq 30 31 ?_
  refine aw_p 61 (
    .a 1 1 <| .nil _ _) ?_
  refine aw_fl 123 ?_
  refine aw_sk ?_
  refine then_normal ?_
  refine aw_sq 62 63 ?_
  refine aw_p 125 (
    .a 1 1 <| .nil _ _) ?_
  refine aw_fl 251 ?_
  refine aw_sk ?_
  refine then_normal ?_
  refine aw_sq 126 127 ?_
  refine aw_p 253 (
    .a 3 1 <| .nil _ _) ?_
  refine aw_fl 507 ?_
  refine aw_sk ?_
  refine then_normal ?_
  refine aw_sq 254 255 ?_
  refine aw_p 509 (
    .a 3 1 <| .nil _ _) ?_
  refine aw_tr 1018 ?_
  refine aw_p 2037 (
    .a 1 1 <| .nil _ _) ?_
  refine aw_rt ?_
  refine then_ret ?_
  exact en_ret [.int .i64 1] (by kernel_rfl)
theorem au_terrkeep1_82  :
    AC Try.prog 57 0 ([.agg #[.int .i64 0, .int .i64 0], .agg #[.int .i64 2, .int .i64 0], .agg #[.int .i64 1, .int .i64 1]]) [] (.int .i64 1) [] := by
  refine ac_in Try.func57 (fun w0 W pin => ?_)
  refine aw_p 3 (
    .a 4 1 <| .nil _ _) ?_
  refine aw_p 7 (
    .a 3 4 <| .p (does_c (au_terrkeep1_79)) <| .p (does_c (au_terrkeep1_81)) <| .a 1 4 <| .nil _ _) ?_
  refine aw_rt ?_
  exact en_ret [.int .i64 1] (by kernel_rfl)
theorem au_terrkeep1_83  :
    AC Try.prog 49 0 ([.int .i64 3, .int .i64 4]) [] (.agg #[.int .i64 3, .int .i64 4]) [] := by
  refine ac_in Try.func49 (fun w0 W pin => ?_)
  refine aw_p 3 (
    .a 1 1 <| .nil _ _) ?_
  refine aw_p 7 (
    .a 4 2 <| .nil _ _) ?_
  refine aw_rt ?_
  exact en_ret [.agg #[.int .i64 3, .int .i64 4]] (by kernel_rfl)
theorem au_terrkeep1_84  :
    AC Try.prog 95 0 ([.int .i64 3, .int .i64 1048576]) [] (.int .i64 3) [] := by
  refine ac_in Try.func95 (fun w0 W pin => ?_)
  refine aw_p 3 (
    .a 1 1 <| .nil _ _) ?_
  refine aw_p 7 (
    .a 7 1 <| .nil _ _) ?_
  refine aw_rt ?_
  exact en_ret [.int .i64 3] (by kernel_rfl)
theorem au_terrkeep1_85  :
    AC Try.prog 95 0 ([.int .i64 4, .int .i64 1048576]) [] (.int .i64 4) [] := by
  refine ac_in Try.func95 (fun w0 W pin => ?_)
  refine aw_p 3 (
    .a 1 1 <| .nil _ _) ?_
  refine aw_p 7 (
    .a 7 1 <| .nil _ _) ?_
  refine aw_rt ?_
  exact en_ret [.int .i64 4] (by kernel_rfl)
theorem au_terrkeep1_86  :
    AC Try.prog 55 0 ([.agg #[.int .i64 3, .int .i64 4]]) [] (.agg #[.int .i64 3, .int .i64 4]) [] := by
  refine ac_in Try.func55 (fun w0 W pin => ?_)
  refine aw_p 3 (
    .a 2 1 <| .nil _ _) ?_
  refine aw_d 7 (
    .a 2 3 <| .p (does_c (au_terrkeep1_84)) <| .a 2 3 <| .p (does_c (au_terrkeep1_85)) <| .a 2 3 <| .nil _ _) ?_
  refine aw_rt ?_
  exact en_ret [.agg #[.int .i64 3, .int .i64 4]] (by kernel_rfl)
theorem au_terrkeep1_87  :
    AC Try.prog 118 0 ([.agg #[.int .i64 0, .int .i64 0], .agg #[.int .i64 3, .int .i64 4]]) [] (.agg #[.int .i64 3, .int .i64 4]) [] := by
  refine ac_in Try.func118 (fun w0 W pin => ?_)
  refine aw_p 3 (
    .a 3 1 <| .nil _ _) ?_
  refine aw_d 7 (
    .a 1 4 <| .p (does_c (au_terrkeep1_9)) <| .a 1 4 <| .p (does_c (au_terrkeep1_86)) <| .a 2 4 <| .nil _ _) ?_
  refine aw_p 15 (
    .a 12 4 <| .nil _ _) ?_
  refine aw_rt ?_
  exact en_ret [.agg #[.int .i64 3, .int .i64 4]] (by kernel_rfl)
theorem au_terrkeep1_88  :
    AC Try.prog 96 0 ([.agg #[.int .i64 0, .int .i64 0], .agg #[.int .i64 3, .int .i64 4], .agg #[.int .i64 3, .int .i64 4]]) [] (.int .i64 25) [] := by
  refine ac_in Try.func96 (fun w0 W pin => ?_)
  refine aw_p 3 (
    .a 4 1 <| .nil _ _) ?_
  refine aw_d 7 (
    .a 2 4 <| .p (does_c (au_terrkeep1_87)) <| .a 2 4 <| .p (does_c (au_terrkeep1_87)) <| .a 4 4 <| .nil _ _) ?_
  refine aw_p 15 (
    .a 12 6 <| .nil _ _) ?_
  refine aw_w [(6, .int .i64 25)] [] ?_
  refine aw_rt ?_
  exact en_ret [.int .i64 25] (by kernel_rfl)
theorem au_terrkeep1_89  :
    AC Try.prog 92 0 ([.agg #[.int .i64 0, .int .i64 0], .agg #[.int .i64 3, .int .i64 4]]) [] (.int .i64 25) [] := by
  refine ac_in Try.func92 (fun w0 W pin => ?_)
  refine aw_p 3 (
    .a 3 1 <| .nil _ _) ?_
  refine aw_p 7 (
    .a 3 3 <| .p (does_c (au_terrkeep1_88)) <| .a 1 3 <| .nil _ _) ?_
  refine aw_rt ?_
  exact en_ret [.int .i64 25] (by kernel_rfl)
theorem au_terrkeep1_90  :
    AC Try.prog 119 0 ([]) [] (.bool true) [] := by
  refine ac_in Try.func119 (fun w0 W pin => ?_)
  refine aw_p 3 (
    .a 1 1 <| .nil _ _) ?_
  refine aw_p 7 (
    .p (does_c (au_terrkeep1_1)) <| .p (does_c (au_terrkeep1_2)) <| .p (does_c (au_terrkeep1_5)) <| .p (does_c (au_terrkeep1_82)) <| .a 2 1 <| .p (does_c (au_terrkeep1_1)) <| .p (does_c (au_terrkeep1_83)) <| .p (does_c (au_terrkeep1_89)) <| .a 3 1 <| .nil _ _) ?_
  refine aw_rt ?_
  exact en_ret [.bool true] (by kernel_rfl)
theorem au_terrkeep1_91  :
    AC Try.prog 93 0 ([]) [] (.bool true) [] := by
  refine ac_in Try.func93 (fun w0 W pin => ?_)
  refine aw_p 3 (
    .a 1 1 <| .nil _ _) ?_
  refine aw_p 7 (
    .p (does_c (au_terrkeep1_1)) <| .p (does_c (au_terrkeep1_5)) <| .p (does_c (au_terrkeep1_6)) <| .p (does_c (au_terrkeep1_7)) <| .p (does_c (au_terrkeep1_75)) <| .a 6 1 <| .nil _ _) ?_
  refine aw_p 15 (
    .p (does_c (au_terrkeep1_90)) <| .a 9 2 <| .p (does_e true ((show (((1 == 1) && ((2 == 2) && true)) && (((1 == 1) && ((2 == 2) && true)) && true)) = true from by decide))) <| .a 2 2 <| .nil _ _) ?_
  refine aw_w [(0, .bool true)] [] ?_
  refine aw_rt ?_
  exact en_ret [.bool true] (by kernel_rfl)
theorem au_terrkeep1_92  :
    AC Try.prog 55 0 ([.agg #[.int .i64 2, .int .i64 2]]) [] (.agg #[.int .i64 2, .int .i64 2]) [] := by
  refine ac_in Try.func55 (fun w0 W pin => ?_)
  refine aw_p 3 (
    .a 2 1 <| .nil _ _) ?_
  refine aw_d 7 (
    .a 2 3 <| .p (does_c (au_terrkeep1_76)) <| .a 2 3 <| .p (does_c (au_terrkeep1_76)) <| .a 2 3 <| .nil _ _) ?_
  refine aw_rt ?_
  exact en_ret [.agg #[.int .i64 2, .int .i64 2]] (by kernel_rfl)
theorem au_terrkeep1_93  :
    AC Try.prog 118 0 ([.agg #[.int .i64 0, .int .i64 0], .agg #[.int .i64 2, .int .i64 2]]) [] (.agg #[.int .i64 2, .int .i64 2]) [] := by
  refine ac_in Try.func118 (fun w0 W pin => ?_)
  refine aw_p 3 (
    .a 3 1 <| .nil _ _) ?_
  refine aw_d 7 (
    .a 1 4 <| .p (does_c (au_terrkeep1_9)) <| .a 1 4 <| .p (does_c (au_terrkeep1_92)) <| .a 2 4 <| .nil _ _) ?_
  refine aw_p 15 (
    .a 12 4 <| .nil _ _) ?_
  refine aw_rt ?_
  exact en_ret [.agg #[.int .i64 2, .int .i64 2]] (by kernel_rfl)
theorem au_terrkeep1_94  :
    AC Try.prog 87 0 ([.agg #[.int .i64 0, .int .i64 0], .agg #[.int .i64 2, .int .i64 0], .agg #[.int .i64 2, .int .i64 2]]) [] (.int .i64 4) [] := by
  refine ac_in Try.func87 (fun w0 W pin => ?_)
  refine aw_p 3 (
    .a 4 1 <| .nil _ _) ?_
  refine aw_d 7 (
    .a 2 4 <| .p (does_c (au_terrkeep1_78)) <| .a 2 4 <| .p (does_c (au_terrkeep1_93)) <| .a 4 4 <| .nil _ _) ?_
  refine aw_p 15 (
    .a 12 6 <| .nil _ _) ?_
  refine aw_w [(6, .int .i64 4)] [] ?_
  refine aw_rt ?_
  exact en_ret [.int .i64 4] (by kernel_rfl)
theorem au_terrkeep1_95  :
    AC Try.prog 55 0 ([.agg #[.int .i64 0, .int .i64 2]]) [] (.agg #[.int .i64 0, .int .i64 2]) [] := by
  refine ac_in Try.func55 (fun w0 W pin => ?_)
  refine aw_p 3 (
    .a 2 1 <| .nil _ _) ?_
  refine aw_d 7 (
    .a 2 3 <| .p (does_c (au_terrkeep1_8)) <| .a 2 3 <| .p (does_c (au_terrkeep1_76)) <| .a 2 3 <| .nil _ _) ?_
  refine aw_rt ?_
  exact en_ret [.agg #[.int .i64 0, .int .i64 2]] (by kernel_rfl)
theorem au_terrkeep1_96  :
    AC Try.prog 118 0 ([.agg #[.int .i64 0, .int .i64 0], .agg #[.int .i64 0, .int .i64 2]]) [] (.agg #[.int .i64 0, .int .i64 2]) [] := by
  refine ac_in Try.func118 (fun w0 W pin => ?_)
  refine aw_p 3 (
    .a 3 1 <| .nil _ _) ?_
  refine aw_d 7 (
    .a 1 4 <| .p (does_c (au_terrkeep1_9)) <| .a 1 4 <| .p (does_c (au_terrkeep1_95)) <| .a 2 4 <| .nil _ _) ?_
  refine aw_p 15 (
    .a 12 4 <| .nil _ _) ?_
  refine aw_rt ?_
  exact en_ret [.agg #[.int .i64 0, .int .i64 2]] (by kernel_rfl)
theorem au_terrkeep1_97  :
    AC Try.prog 87 0 ([.agg #[.int .i64 0, .int .i64 0], .agg #[.int .i64 2, .int .i64 2], .agg #[.int .i64 0, .int .i64 2]]) [] (.int .i64 4) [] := by
  refine ac_in Try.func87 (fun w0 W pin => ?_)
  refine aw_p 3 (
    .a 4 1 <| .nil _ _) ?_
  refine aw_d 7 (
    .a 2 4 <| .p (does_c (au_terrkeep1_93)) <| .a 2 4 <| .p (does_c (au_terrkeep1_96)) <| .a 4 4 <| .nil _ _) ?_
  refine aw_p 15 (
    .a 12 6 <| .nil _ _) ?_
  refine aw_w [(6, .int .i64 4)] [] ?_
  refine aw_rt ?_
  exact en_ret [.int .i64 4] (by kernel_rfl)
theorem au_terrkeep1_98  :
    AC Try.prog 39 1 ([sV 0 4]) [(0, ⟨[.int .i64 0, .int .i64 0, .int .i64 2, .int .i64 0, .int .i64 2, .int .i64 2, .int .i64 0, .int .i64 2], 28, true, 2⟩)] (.int .i64 8) [(0, ⟨[.int .i64 0, .int .i64 0, .int .i64 2, .int .i64 0, .int .i64 2, .int .i64 2, .int .i64 0, .int .i64 2], 28, true, 2⟩)] := by
  refine ac_in Try.func39 (fun w0 W pin => ?_)
  refine aw_p 3 (
    .a 1 1 <| .nil _ _) ?_
  refine aw_p 7 (
    .a 1 1 <| .nil _ _) ?_
  refine aw_sq 14 15 ?_
  refine aw_p 29 (
    .a 1 1 <| .nil _ _) ?_
  refine aw_bl 0 59 ?_
  refine aw_lp 119 ?_
  refine al_round ?_
  refine aw_sq 238 239 ?_
  refine aw_p 477 (
    .a 4 1 <| .nil _ _) ?_
  refine aw_tr 954 ?_
  refine aw_sk ?_
  refine then_normal ?_
  refine aw_sq 478 479 ?_
  refine aw_bl 1 957 ?_
  refine aw_d1 (
    .a 13 1 <| .p (does_c (au_terrkeep1_94)) <| .a 2 1 <| .nil _ _) ?_
  refine block_normal ?_
  refine then_normal ?_
  refine aw_p1 (
    .a 3 1 <| .nil _ _) ?_
  refine then_normal ?_
  refine al_round ?_
  refine aw_sq 238 239 ?_
  refine aw_p 477 (
    .a 4 1 <| .nil _ _) ?_
  refine aw_w [(0, sV 0 4), (2, .int .i64 0), (3, .int .i64 4), (4, .int .i64 3), (8, .bool true)] [(0, ⟨[.int .i64 0, .int .i64 0, .int .i64 2, .int .i64 0, .int .i64 2, .int .i64 2, .int .i64 0, .int .i64 2], 28, true, 2⟩)] ?_
  refine aw_tr 954 ?_
  refine aw_sk ?_
  refine then_normal ?_
  refine aw_sq 478 479 ?_
  refine aw_bl 1 957 ?_
  refine aw_d1 (
    .a 13 1 <| .p (does_c (au_terrkeep1_97)) <| .a 2 1 <| .nil _ _) ?_
  refine block_normal ?_
  refine then_normal ?_
  refine aw_p1 (
    .a 3 1 <| .nil _ _) ?_
  refine then_normal ?_
  refine al_round ?_
  refine aw_sq 238 239 ?_
  refine aw_p 477 (
    .a 4 1 <| .nil _ _) ?_
  refine aw_fl 955 ?_
  refine aw_ex 0 ?_
  refine then_exit ?_
  refine then_exit ?_
  refine block_exit ?_
  refine then_normal ?_
  refine aw_p 31 (
    .a 2 1 <| .nil _ _) ?_
  refine aw_w [(2, .int .i64 8)] [(0, ⟨[.int .i64 0, .int .i64 0, .int .i64 2, .int .i64 0, .int .i64 2, .int .i64 2, .int .i64 0, .int .i64 2], 28, true, 2⟩)] ?_
  refine aw_rt ?_
  exact en_ret [.int .i64 8] (by kernel_rfl)
theorem au_terrkeep1_99  :
    AC Try.prog 38 0 ([.slice none 0 0]) [] (.int .i64 3) [] := by
  refine ac_in Try.func38 (fun w0 W pin => ?_)
  refine aw_p 3 (
    .a 1 1 <| .nil _ _) ?_
  refine aw_p 7 (
    .a 3 1 <| .nil _ _) ?_
  refine aw_sq 14 15 ?_
  refine aw_bl 0 29 ?_
  refine aw_p 59 (
    .a 3 1 <| .nil _ _) ?_
  refine aw_fl 119 ?_
  refine aw_p 239 (
    .a 3 1 <| .nil _ _) ?_
  refine aw_tr 478 ?_
  refine aw_p 957 (
    .a 1 1 <| .nil _ _) ?_
  refine aw_rt ?_
  refine block_ret ?_
  refine then_ret ?_
  exact en_ret [.int .i64 3] (by kernel_rfl)
theorem au_terrkeep1_100  :
    AC Try.prog 56 0 ([.agg #[.int .i64 0, .int .i64 0], .agg #[.int .i64 2, .int .i64 0], .agg #[.int .i64 1, .int .i64 1]]) [] (.bool false) [] := by
  refine ac_in Try.func56 (fun w0 W pin => ?_)
  refine aw_p 3 (
    .a 4 1 <| .nil _ _) ?_
  refine aw_p 7 (
    .a 3 4 <| .p (does_c (au_terrkeep1_82)) <| .a 9 4 <| .nil _ _) ?_
  refine aw_rt ?_
  exact en_ret [.bool false] (by kernel_rfl)
theorem au_terrkeep1_101  :
    AC Try.prog 118 0 ([.agg #[.int .i64 2, .int .i64 0], .agg #[.int .i64 2, .int .i64 2]]) [] (.agg #[.int .i64 0, .int .i64 2]) [] := by
  refine ac_in Try.func118 (fun w0 W pin => ?_)
  refine aw_p 3 (
    .a 3 1 <| .nil _ _) ?_
  refine aw_d 7 (
    .a 1 4 <| .p (does_c (au_terrkeep1_77)) <| .a 1 4 <| .p (does_c (au_terrkeep1_92)) <| .a 2 4 <| .nil _ _) ?_
  refine aw_p 15 (
    .a 12 4 <| .nil _ _) ?_
  refine aw_rt ?_
  exact en_ret [.agg #[.int .i64 0, .int .i64 2]] (by kernel_rfl)
theorem au_terrkeep1_102  :
    AC Try.prog 118 0 ([.agg #[.int .i64 2, .int .i64 0], .agg #[.int .i64 1, .int .i64 1]]) [] (.agg #[.int .i64 (-1), .int .i64 1]) [] := by
  refine ac_in Try.func118 (fun w0 W pin => ?_)
  refine aw_p 3 (
    .a 3 1 <| .nil _ _) ?_
  refine aw_d 7 (
    .a 1 4 <| .p (does_c (au_terrkeep1_77)) <| .a 1 4 <| .p (does_c (au_terrkeep1_11)) <| .a 2 4 <| .nil _ _) ?_
  refine aw_p 15 (
    .a 12 4 <| .nil _ _) ?_
  refine aw_rt ?_
  exact en_ret [.agg #[.int .i64 (-1), .int .i64 1]] (by kernel_rfl)
theorem au_terrkeep1_103  :
    AC Try.prog 87 0 ([.agg #[.int .i64 2, .int .i64 0], .agg #[.int .i64 2, .int .i64 2], .agg #[.int .i64 1, .int .i64 1]]) [] (.int .i64 2) [] := by
  refine ac_in Try.func87 (fun w0 W pin => ?_)
  refine aw_p 3 (
    .a 4 1 <| .nil _ _) ?_
  refine aw_d 7 (
    .a 2 4 <| .p (does_c (au_terrkeep1_101)) <| .a 2 4 <| .p (does_c (au_terrkeep1_102)) <| .a 4 4 <| .nil _ _) ?_
  refine aw_p 15 (
    .a 12 6 <| .nil _ _) ?_
  refine aw_w [(6, .int .i64 2)] [] ?_
  refine aw_rt ?_
  exact en_ret [.int .i64 2] (by kernel_rfl)
theorem au_terrkeep1_104  :
    AC Try.prog 57 0 ([.agg #[.int .i64 2, .int .i64 0], .agg #[.int .i64 2, .int .i64 2], .agg #[.int .i64 1, .int .i64 1]]) [] (.int .i64 1) [] := by
  refine ac_in Try.func57 (fun w0 W pin => ?_)
  refine aw_p 3 (
    .a 4 1 <| .nil _ _) ?_
  refine aw_p 7 (
    .a 3 4 <| .p (does_c (au_terrkeep1_103)) <| .p (does_c (au_terrkeep1_81)) <| .a 1 4 <| .nil _ _) ?_
  refine aw_rt ?_
  exact en_ret [.int .i64 1] (by kernel_rfl)
theorem au_terrkeep1_105  :
    AC Try.prog 56 0 ([.agg #[.int .i64 2, .int .i64 0], .agg #[.int .i64 2, .int .i64 2], .agg #[.int .i64 1, .int .i64 1]]) [] (.bool false) [] := by
  refine ac_in Try.func56 (fun w0 W pin => ?_)
  refine aw_p 3 (
    .a 4 1 <| .nil _ _) ?_
  refine aw_p 7 (
    .a 3 4 <| .p (does_c (au_terrkeep1_104)) <| .a 9 4 <| .nil _ _) ?_
  refine aw_rt ?_
  exact en_ret [.bool false] (by kernel_rfl)
theorem au_terrkeep1_106  :
    AC Try.prog 118 0 ([.agg #[.int .i64 2, .int .i64 2], .agg #[.int .i64 0, .int .i64 2]]) [] (.agg #[.int .i64 (-2), .int .i64 0]) [] := by
  refine ac_in Try.func118 (fun w0 W pin => ?_)
  refine aw_p 3 (
    .a 3 1 <| .nil _ _) ?_
  refine aw_d 7 (
    .a 1 4 <| .p (does_c (au_terrkeep1_92)) <| .a 1 4 <| .p (does_c (au_terrkeep1_95)) <| .a 2 4 <| .nil _ _) ?_
  refine aw_p 15 (
    .a 12 4 <| .nil _ _) ?_
  refine aw_rt ?_
  exact en_ret [.agg #[.int .i64 (-2), .int .i64 0]] (by kernel_rfl)
theorem au_terrkeep1_107  :
    AC Try.prog 118 0 ([.agg #[.int .i64 2, .int .i64 2], .agg #[.int .i64 1, .int .i64 1]]) [] (.agg #[.int .i64 (-1), .int .i64 (-1)]) [] := by
  refine ac_in Try.func118 (fun w0 W pin => ?_)
  refine aw_p 3 (
    .a 3 1 <| .nil _ _) ?_
  refine aw_d 7 (
    .a 1 4 <| .p (does_c (au_terrkeep1_92)) <| .a 1 4 <| .p (does_c (au_terrkeep1_11)) <| .a 2 4 <| .nil _ _) ?_
  refine aw_p 15 (
    .a 12 4 <| .nil _ _) ?_
  refine aw_rt ?_
  exact en_ret [.agg #[.int .i64 (-1), .int .i64 (-1)]] (by kernel_rfl)
theorem au_terrkeep1_108  :
    AC Try.prog 87 0 ([.agg #[.int .i64 2, .int .i64 2], .agg #[.int .i64 0, .int .i64 2], .agg #[.int .i64 1, .int .i64 1]]) [] (.int .i64 2) [] := by
  refine ac_in Try.func87 (fun w0 W pin => ?_)
  refine aw_p 3 (
    .a 4 1 <| .nil _ _) ?_
  refine aw_d 7 (
    .a 2 4 <| .p (does_c (au_terrkeep1_106)) <| .a 2 4 <| .p (does_c (au_terrkeep1_107)) <| .a 4 4 <| .nil _ _) ?_
  refine aw_p 15 (
    .a 12 6 <| .nil _ _) ?_
  refine aw_w [(6, .int .i64 2)] [] ?_
  refine aw_rt ?_
  exact en_ret [.int .i64 2] (by kernel_rfl)
theorem au_terrkeep1_109  :
    AC Try.prog 57 0 ([.agg #[.int .i64 2, .int .i64 2], .agg #[.int .i64 0, .int .i64 2], .agg #[.int .i64 1, .int .i64 1]]) [] (.int .i64 1) [] := by
  refine ac_in Try.func57 (fun w0 W pin => ?_)
  refine aw_p 3 (
    .a 4 1 <| .nil _ _) ?_
  refine aw_p 7 (
    .a 3 4 <| .p (does_c (au_terrkeep1_108)) <| .p (does_c (au_terrkeep1_81)) <| .a 1 4 <| .nil _ _) ?_
  refine aw_rt ?_
  exact en_ret [.int .i64 1] (by kernel_rfl)
theorem au_terrkeep1_110  :
    AC Try.prog 56 0 ([.agg #[.int .i64 2, .int .i64 2], .agg #[.int .i64 0, .int .i64 2], .agg #[.int .i64 1, .int .i64 1]]) [] (.bool false) [] := by
  refine ac_in Try.func56 (fun w0 W pin => ?_)
  refine aw_p 3 (
    .a 4 1 <| .nil _ _) ?_
  refine aw_p 7 (
    .a 3 4 <| .p (does_c (au_terrkeep1_109)) <| .a 9 4 <| .nil _ _) ?_
  refine aw_rt ?_
  exact en_ret [.bool false] (by kernel_rfl)
theorem au_terrkeep1_111  :
    AC Try.prog 118 0 ([.agg #[.int .i64 0, .int .i64 2], .agg #[.int .i64 0, .int .i64 0]]) [] (.agg #[.int .i64 0, .int .i64 (-2)]) [] := by
  refine ac_in Try.func118 (fun w0 W pin => ?_)
  refine aw_p 3 (
    .a 3 1 <| .nil _ _) ?_
  refine aw_d 7 (
    .a 1 4 <| .p (does_c (au_terrkeep1_95)) <| .a 1 4 <| .p (does_c (au_terrkeep1_9)) <| .a 2 4 <| .nil _ _) ?_
  refine aw_p 15 (
    .a 12 4 <| .nil _ _) ?_
  refine aw_rt ?_
  exact en_ret [.agg #[.int .i64 0, .int .i64 (-2)]] (by kernel_rfl)
theorem au_terrkeep1_112  :
    AC Try.prog 118 0 ([.agg #[.int .i64 0, .int .i64 2], .agg #[.int .i64 1, .int .i64 1]]) [] (.agg #[.int .i64 1, .int .i64 (-1)]) [] := by
  refine ac_in Try.func118 (fun w0 W pin => ?_)
  refine aw_p 3 (
    .a 3 1 <| .nil _ _) ?_
  refine aw_d 7 (
    .a 1 4 <| .p (does_c (au_terrkeep1_95)) <| .a 1 4 <| .p (does_c (au_terrkeep1_11)) <| .a 2 4 <| .nil _ _) ?_
  refine aw_p 15 (
    .a 12 4 <| .nil _ _) ?_
  refine aw_rt ?_
  exact en_ret [.agg #[.int .i64 1, .int .i64 (-1)]] (by kernel_rfl)
theorem au_terrkeep1_113  :
    AC Try.prog 87 0 ([.agg #[.int .i64 0, .int .i64 2], .agg #[.int .i64 0, .int .i64 0], .agg #[.int .i64 1, .int .i64 1]]) [] (.int .i64 2) [] := by
  refine ac_in Try.func87 (fun w0 W pin => ?_)
  refine aw_p 3 (
    .a 4 1 <| .nil _ _) ?_
  refine aw_d 7 (
    .a 2 4 <| .p (does_c (au_terrkeep1_111)) <| .a 2 4 <| .p (does_c (au_terrkeep1_112)) <| .a 4 4 <| .nil _ _) ?_
  refine aw_p 15 (
    .a 12 6 <| .nil _ _) ?_
  refine aw_w [(6, .int .i64 2)] [] ?_
  refine aw_rt ?_
  exact en_ret [.int .i64 2] (by kernel_rfl)
theorem au_terrkeep1_114  :
    AC Try.prog 57 0 ([.agg #[.int .i64 0, .int .i64 2], .agg #[.int .i64 0, .int .i64 0], .agg #[.int .i64 1, .int .i64 1]]) [] (.int .i64 1) [] := by
  refine ac_in Try.func57 (fun w0 W pin => ?_)
  refine aw_p 3 (
    .a 4 1 <| .nil _ _) ?_
  refine aw_p 7 (
    .a 3 4 <| .p (does_c (au_terrkeep1_113)) <| .p (does_c (au_terrkeep1_81)) <| .a 1 4 <| .nil _ _) ?_
  refine aw_rt ?_
  exact en_ret [.int .i64 1] (by kernel_rfl)
theorem au_terrkeep1_115  :
    AC Try.prog 56 0 ([.agg #[.int .i64 0, .int .i64 2], .agg #[.int .i64 0, .int .i64 0], .agg #[.int .i64 1, .int .i64 1]]) [] (.bool false) [] := by
  refine ac_in Try.func56 (fun w0 W pin => ?_)
  refine aw_p 3 (
    .a 4 1 <| .nil _ _) ?_
  refine aw_p 7 (
    .a 3 4 <| .p (does_c (au_terrkeep1_114)) <| .a 9 4 <| .nil _ _) ?_
  refine aw_rt ?_
  exact en_ret [.bool false] (by kernel_rfl)
theorem au_terrkeep1_116  :
    AC Try.prog 87 0 ([.agg #[.int .i64 0, .int .i64 0], .agg #[.int .i64 0, .int .i64 2], .agg #[.int .i64 1, .int .i64 1]]) [] (.int .i64 (-2)) [] := by
  refine ac_in Try.func87 (fun w0 W pin => ?_)
  refine aw_p 3 (
    .a 4 1 <| .nil _ _) ?_
  refine aw_d 7 (
    .a 2 4 <| .p (does_c (au_terrkeep1_96)) <| .a 2 4 <| .p (does_c (au_terrkeep1_14)) <| .a 4 4 <| .nil _ _) ?_
  refine aw_p 15 (
    .a 12 6 <| .nil _ _) ?_
  refine aw_w [(6, .int .i64 (-2))] [] ?_
  refine aw_rt ?_
  exact en_ret [.int .i64 (-2)] (by kernel_rfl)
theorem au_terrkeep1_117  :
    AC Try.prog 120 0 ([.int .i64 (-2)]) [] (.bool false) [] := by
  refine ac_in Try.func120 (fun w0 W pin => ?_)
  refine aw_p 3 (
    .a 1 1 <| .nil _ _) ?_
  refine aw_p 7 (
    .a 4 1 <| .nil _ _) ?_
  refine aw_rt ?_
  exact en_ret [.bool false] (by kernel_rfl)
theorem au_terrkeep1_118  :
    AC Try.prog 97 0 ([.int .i64 (-2), .int .i64 0]) [] (.int .i64 (-1)) [] := by
  refine ac_in Try.func97 (fun w0 W pin => ?_)
  refine aw_p 3 (
    .a 1 1 <| .nil _ _) ?_
  refine aw_p 7 (
    .a 1 1 <| .p (does_c (au_terrkeep1_117)) <| .a 1 1 <| .nil _ _) ?_
  refine aw_p 15 (
    .a 1 1 <| .p (does_c (au_terrkeep1_18)) <| .a 1 1 <| .nil _ _) ?_
  refine aw_sq 30 31 ?_
  refine aw_p 61 (
    .a 1 1 <| .nil _ _) ?_
  refine aw_fl 123 ?_
  refine aw_sk ?_
  refine then_normal ?_
  refine aw_sq 62 63 ?_
  refine aw_p 125 (
    .a 1 1 <| .nil _ _) ?_
  refine aw_fl 251 ?_
  refine aw_sk ?_
  refine then_normal ?_
  refine aw_sq 126 127 ?_
  refine aw_p 253 (
    .a 3 1 <| .nil _ _) ?_
  refine aw_tr 506 ?_
  refine aw_p 1013 (
    .a 1 1 <| .nil _ _) ?_
  refine aw_rt ?_
  refine then_ret ?_
  exact en_ret [.int .i64 (-1)] (by kernel_rfl)
theorem au_terrkeep1_119  :
    AC Try.prog 57 0 ([.agg #[.int .i64 0, .int .i64 0], .agg #[.int .i64 0, .int .i64 2], .agg #[.int .i64 1, .int .i64 1]]) [] (.int .i64 (-1)) [] := by
  refine ac_in Try.func57 (fun w0 W pin => ?_)
  refine aw_p 3 (
    .a 4 1 <| .nil _ _) ?_
  refine aw_p 7 (
    .a 3 4 <| .p (does_c (au_terrkeep1_116)) <| .p (does_c (au_terrkeep1_118)) <| .a 1 4 <| .nil _ _) ?_
  refine aw_rt ?_
  exact en_ret [.int .i64 (-1)] (by kernel_rfl)
theorem au_terrkeep1_120  :
    AC Try.prog 11 1 ([sV 0 4, .agg #[.int .i64 1, .int .i64 1]]) [(0, ⟨[.int .i64 0, .int .i64 0, .int .i64 2, .int .i64 0, .int .i64 2, .int .i64 2, .int .i64 0, .int .i64 2], 28, true, 2⟩)] (.int .i64 1) [(0, ⟨[.int .i64 0, .int .i64 0, .int .i64 2, .int .i64 0, .int .i64 2, .int .i64 2, .int .i64 0, .int .i64 2], 28, true, 2⟩)] := by
  refine ac_in Try.func11 (fun w0 W pin => ?_)
  refine aw_p 3 (
    .a 2 1 <| .nil _ _) ?_
  refine aw_p 7 (
    .a 1 2 <| .p (does_c (au_terrkeep1_11)) <| .a 1 2 <| .nil _ _) ?_
  refine aw_p 15 (
    .a 1 2 <| .nil _ _) ?_
  refine aw_sq 30 31 ?_
  refine aw_p 61 (
    .a 3 2 <| .nil _ _) ?_
  refine aw_bl 0 123 ?_
  refine aw_lp 247 ?_
  refine al_round ?_
  refine aw_p 495 (
    .a 1 2 <| .nil _ _) ?_
  refine aw_sq 990 991 ?_
  refine aw_tr 1980 ?_
  refine aw_sk ?_
  refine then_normal ?_
  refine aw_sq 1982 1983 ?_
  refine aw_bl 1 3965 ?_
  refine aw_p 7931 (
    .a 2 2 <| .nil _ _) ?_
  refine aw_d 15863 (
    .a 4 2 <| .p (does_c (au_terrkeep1_9)) <| .a 8 2 <| .p (does_c (au_terrkeep1_77)) <| .a 4 2 <| .nil _ _) ?_
  refine aw_w [(0, sV 0 4), (3, .pointer (some ⟨1, 0, none⟩)), (4, .int .i64 0), (5, .int .i64 (-1)), (6, .int .i64 0), (7, .pointer (some ⟨2, 0, none⟩)), (8, .pointer (some ⟨3, 0, none⟩)), (12, .int .i64 4), (13, .int .i64 0), (14, .bool true)] [(0, ⟨[.int .i64 0, .int .i64 0, .int .i64 2, .int .i64 0, .int .i64 2, .int .i64 2, .int .i64 0, .int .i64 2], 28, true, 2⟩), (1, ⟨[.int .i64 1, .int .i64 1], 28, true, 2⟩), (2, ⟨[.int .i64 0, .int .i64 0], 28, true, 2⟩), (3, ⟨[.int .i64 2, .int .i64 0], 28, true, 2⟩)] ?_
  refine aw_sq 31726 31727 ?_
  refine aw_p 63453 (
    .a 3 4 <| .p (does_c (au_terrkeep1_100)) <| .nil _ _) ?_
  refine aw_fl 126907 ?_
  refine aw_sk ?_
  refine then_normal ?_
  refine aw_sq 63454 63455 ?_
  refine aw_p 126909 (
    .a 5 4 <| .nil _ _) ?_
  refine aw_fl 253819 ?_
  refine aw_sk ?_
  refine then_normal ?_
  refine aw_p 126911 (
    .a 19 4 <| .nil _ _) ?_
  refine aw_w [(0, sV 0 4), (3, .pointer (some ⟨1, 0, none⟩)), (4, .int .i64 0), (5, .int .i64 (-1)), (6, .int .i64 0), (7, .pointer (some ⟨2, 0, none⟩)), (8, .pointer (some ⟨3, 0, none⟩)), (12, .int .i64 4), (13, .int .i64 0), (14, .bool true), (33, .bool false), (38, .bool false), (59, .bool false)] [(0, ⟨[.int .i64 0, .int .i64 0, .int .i64 2, .int .i64 0, .int .i64 2, .int .i64 2, .int .i64 0, .int .i64 2], 28, true, 2⟩), (1, ⟨[.int .i64 1, .int .i64 1], 28, true, 2⟩), (2, ⟨[.int .i64 0, .int .i64 0], 28, true, 2⟩), (3, ⟨[.int .i64 2, .int .i64 0], 28, true, 2⟩)] ?_
  refine aw_fl 253823 ?_
  refine aw_sk ?_
  refine block_normal ?_
  refine then_normal ?_
  refine aw_p1 (
    .a 2 4 <| .nil _ _) ?_
  refine then_normal ?_
  refine al_round ?_
  refine aw_p 495 (
    .a 1 4 <| .nil _ _) ?_
  refine aw_sq 990 991 ?_
  refine aw_tr 1980 ?_
  refine aw_sk ?_
  refine then_normal ?_
  refine aw_sq 1982 1983 ?_
  refine aw_bl 1 3965 ?_
  refine aw_p 7931 (
    .a 2 4 <| .nil _ _) ?_
  refine aw_d 15863 (
    .a 4 4 <| .p (does_c (au_terrkeep1_77)) <| .a 8 4 <| .p (does_c (au_terrkeep1_92)) <| .a 4 4 <| .nil _ _) ?_
  refine aw_sq 31726 31727 ?_
  refine aw_p 63453 (
    .a 3 6 <| .p (does_c (au_terrkeep1_105)) <| .nil _ _) ?_
  refine aw_w [(0, sV 0 4), (3, .pointer (some ⟨1, 0, none⟩)), (4, .int .i64 0), (5, .int .i64 (-1)), (6, .int .i64 1), (7, .pointer (some ⟨4, 0, none⟩)), (8, .pointer (some ⟨5, 0, none⟩)), (12, .int .i64 4), (13, .int .i64 1), (14, .bool true), (33, .bool false), (38, .bool false), (59, .bool false)] [(0, ⟨[.int .i64 0, .int .i64 0, .int .i64 2, .int .i64 0, .int .i64 2, .int .i64 2, .int .i64 0, .int .i64 2], 28, true, 2⟩), (1, ⟨[.int .i64 1, .int .i64 1], 28, true, 2⟩), (4, ⟨[.int .i64 2, .int .i64 0], 28, true, 2⟩), (5, ⟨[.int .i64 2, .int .i64 2], 28, true, 2⟩)] ?_
  refine aw_fl 126907 ?_
  refine aw_sk ?_
  refine then_normal ?_
  refine aw_sq 63454 63455 ?_
  refine aw_p 126909 (
    .a 5 6 <| .nil _ _) ?_
  refine aw_fl 253819 ?_
  refine aw_sk ?_
  refine then_normal ?_
  refine aw_p 126911 (
    .a 16 6 <| .p (does_c (au_terrkeep1_104)) <| .a 2 6 <| .nil _ _) ?_
  refine aw_tr 253822 ?_
  refine aw_p1 (
    .a 3 6 <| .nil _ _) ?_
  refine block_normal ?_
  refine then_normal ?_
  refine aw_p1 (
    .a 2 6 <| .nil _ _) ?_
  refine then_normal ?_
  refine al_round ?_
  refine aw_p 495 (
    .a 1 6 <| .nil _ _) ?_
  refine aw_w [(0, sV 0 4), (3, .pointer (some ⟨1, 0, none⟩)), (4, .int .i64 0), (5, .int .i64 1), (6, .int .i64 1), (7, .pointer (some ⟨4, 0, none⟩)), (8, .pointer (some ⟨5, 0, none⟩)), (12, .int .i64 4), (13, .int .i64 2), (14, .bool true), (33, .bool false), (38, .bool false), (59, .bool true)] [(0, ⟨[.int .i64 0, .int .i64 0, .int .i64 2, .int .i64 0, .int .i64 2, .int .i64 2, .int .i64 0, .int .i64 2], 28, true, 2⟩), (1, ⟨[.int .i64 1, .int .i64 1], 28, true, 2⟩), (4, ⟨[.int .i64 2, .int .i64 0], 28, true, 2⟩), (5, ⟨[.int .i64 2, .int .i64 2], 28, true, 2⟩)] ?_
  refine aw_sq 990 991 ?_
  refine aw_tr 1980 ?_
  refine aw_sk ?_
  refine then_normal ?_
  refine aw_sq 1982 1983 ?_
  refine aw_bl 1 3965 ?_
  refine aw_p 7931 (
    .a 2 6 <| .nil _ _) ?_
  refine aw_d 15863 (
    .a 4 6 <| .p (does_c (au_terrkeep1_92)) <| .a 8 6 <| .p (does_c (au_terrkeep1_95)) <| .a 4 6 <| .nil _ _) ?_
  refine aw_sq 31726 31727 ?_
  refine aw_p 63453 (
    .a 3 8 <| .p (does_c (au_terrkeep1_110)) <| .nil _ _) ?_
  refine aw_fl 126907 ?_
  refine aw_sk ?_
  refine then_normal ?_
  refine aw_sq 63454 63455 ?_
  refine aw_p 126909 (
    .a 5 8 <| .nil _ _) ?_
  refine aw_w [(0, sV 0 4), (3, .pointer (some ⟨1, 0, none⟩)), (4, .int .i64 0), (5, .int .i64 1), (6, .int .i64 2), (7, .pointer (some ⟨6, 0, none⟩)), (8, .pointer (some ⟨7, 0, none⟩)), (12, .int .i64 4), (13, .int .i64 2), (14, .bool true), (33, .bool false), (38, .bool false), (59, .bool true)] [(0, ⟨[.int .i64 0, .int .i64 0, .int .i64 2, .int .i64 0, .int .i64 2, .int .i64 2, .int .i64 0, .int .i64 2], 28, true, 2⟩), (1, ⟨[.int .i64 1, .int .i64 1], 28, true, 2⟩), (6, ⟨[.int .i64 2, .int .i64 2], 28, true, 2⟩), (7, ⟨[.int .i64 0, .int .i64 2], 28, true, 2⟩)] ?_
  refine aw_fl 253819 ?_
  refine aw_sk ?_
  refine then_normal ?_
  refine aw_p 126911 (
    .a 19 8 <| .nil _ _) ?_
  refine aw_fl 253823 ?_
  refine aw_sk ?_
  refine block_normal ?_
  refine then_normal ?_
  refine aw_p1 (
    .a 2 8 <| .nil _ _) ?_
  refine then_normal ?_
  refine al_round ?_
  refine aw_p 495 (
    .a 1 8 <| .nil _ _) ?_
  refine aw_sq 990 991 ?_
  refine aw_tr 1980 ?_
  refine aw_sk ?_
  refine then_normal ?_
  refine aw_sq 1982 1983 ?_
  refine aw_bl 1 3965 ?_
  refine aw_p 7931 (
    .a 2 8 <| .nil _ _) ?_
  refine aw_d 15863 (
    .a 4 8 <| .p (does_c (au_terrkeep1_95)) <| .a 8 8 <| .p (does_c (au_terrkeep1_9)) <| .a 4 8 <| .nil _ _) ?_
  refine aw_w [(0, sV 0 4), (3, .pointer (some ⟨1, 0, none⟩)), (4, .int .i64 0), (5, .int .i64 1), (6, .int .i64 3), (7, .pointer (some ⟨8, 0, none⟩)), (8, .pointer (some ⟨9, 0, none⟩)), (12, .int .i64 4), (13, .int .i64 3), (14, .bool true), (33, .bool false), (38, .bool false), (59, .bool false)] [(0, ⟨[.int .i64 0, .int .i64 0, .int .i64 2, .int .i64 0, .int .i64 2, .int .i64 2, .int .i64 0, .int .i64 2], 28, true, 2⟩), (1, ⟨[.int .i64 1, .int .i64 1], 28, true, 2⟩), (8, ⟨[.int .i64 0, .int .i64 2], 28, true, 2⟩), (9, ⟨[.int .i64 0, .int .i64 0], 28, true, 2⟩)] ?_
  refine aw_sq 31726 31727 ?_
  refine aw_p 63453 (
    .a 3 10 <| .p (does_c (au_terrkeep1_115)) <| .nil _ _) ?_
  refine aw_fl 126907 ?_
  refine aw_sk ?_
  refine then_normal ?_
  refine aw_sq 63454 63455 ?_
  refine aw_p 126909 (
    .a 5 10 <| .nil _ _) ?_
  refine aw_tr 253818 ?_
  refine aw_p1 (
    .a 4 10 <| .nil _ _) ?_
  refine then_normal ?_
  refine aw_p 126911 (
    .a 16 10 <| .p (does_c (au_terrkeep1_119)) <| .a 2 10 <| .nil _ _) ?_
  refine aw_w [(0, sV 0 4), (3, .pointer (some ⟨1, 0, none⟩)), (4, .int .i64 0), (5, .int .i64 1), (6, .int .i64 3), (7, .pointer (some ⟨8, 0, none⟩)), (8, .pointer (some ⟨9, 0, none⟩)), (12, .int .i64 4), (13, .int .i64 3), (14, .bool true), (33, .bool false), (38, .bool true), (59, .bool false)] [(0, ⟨[.int .i64 0, .int .i64 0, .int .i64 2, .int .i64 0, .int .i64 2, .int .i64 2, .int .i64 0, .int .i64 2], 28, true, 2⟩), (1, ⟨[.int .i64 1, .int .i64 1], 28, true, 2⟩), (8, ⟨[.int .i64 0, .int .i64 0], 28, true, 2⟩), (9, ⟨[.int .i64 0, .int .i64 2], 28, true, 2⟩)] ?_
  refine aw_fl 253823 ?_
  refine aw_sk ?_
  refine block_normal ?_
  refine then_normal ?_
  refine aw_p1 (
    .a 2 10 <| .nil _ _) ?_
  refine then_normal ?_
  refine al_round ?_
  refine aw_p 495 (
    .a 1 10 <| .nil _ _) ?_
  refine aw_sq 990 991 ?_
  refine aw_fl 1981 ?_
  refine aw_ex 0 ?_
  refine then_exit ?_
  refine then_exit ?_
  refine block_exit ?_
  refine then_normal ?_
  refine aw_p 63 (
    .a 2 10 <| .nil _ _) ?_
  refine aw_rt ?_
  exact en_ret [.int .i64 1] (by kernel_rfl)
theorem terrkeep1_ringBegun_ok  :
    AC Try.prog 50 0 ([]) [] (.bool true) [] := by
  refine ac_in Try.func50 (fun w0 W pin => ?_)
  refine aw_p 3 (
    .a 1 1 <| .nil _ _) ?_
  refine aw_p 7 (
    .p (does_c (au_terrkeep1_1)) <| .p (does_c (au_terrkeep1_2)) <| .p (does_c (au_terrkeep1_3)) <| .p (does_c (au_terrkeep1_4)) <| .a 2 1 <| .nil _ _) ?_
  refine aw_p 15 (
    .p (does_c (au_terrkeep1_91)) <| .a 2 2 <| .p (does_k [1] (au_terrkeep1_98)) <| .a 3 2 <| .p (does_c (au_terrkeep1_99)) <| .a 4 2 <| .p (does_c (au_terrkeep1_5)) <| .p (does_k [1] (au_terrkeep1_120)) <| .a 3 2 <| .nil _ _) ?_
  refine aw_rt ?_
  exact en_ret [.bool true] (by kernel_rfl)
end Go.Proofs.Ytndkhgfecnbmnaa.Am

namespace Go.Proofs.Ytndkhgfecnbmnaa.Am
open Go Go.Proofs
set_option maxRecDepth 100000
set_option maxHeartbeats 4000000
set_option linter.unusedVariables false
set_option linter.unusedSimpArgs false
theorem atwice_b (R1 R2 : List (Int × Int)) (zR1 : 1 ≤ R1.length ∧ R1.length ≤ 200) (fR1 : Sp.Few 1000 R1) (zR2 : 1 ≤ R2.length ∧ R2.length ≤ 200) (fR2 : Sp.Few 1000 R2) (cR1 : Sp.chkF R1 = 0) (cR2 : Sp.chkF R2 = 0) (F21 : Sp.Fit R2 R1 1 (-1)) (t1 : Sp.twF R1 1 0 = 32) (t2 : Sp.twF R2 1 0 = 2) :
    AC Try.prog 21 3 ([sV 0 2]) [(0, ⟨[sV 1 R1.length, sV 2 R2.length], 30, true, 1⟩), (1, (pB R1)), (2, (pB R2))] (.int .i64 30) [(0, ⟨[sV 1 R1.length, sV 2 R2.length], 30, true, 1⟩), (1, (pB R1)), (2, (pB R2))] := by
  refine ac_in Try.func21 (fun w0 W pin => ?_)
  refine aw_p 3 (
    .a 1 3 <| .nil _ _) ?_
  refine aw_p 7 (
    .a 1 3 <| .nil _ _) ?_
  refine aw_sq 14 15 ?_
  refine aw_p 29 (
    .a 1 3 <|
    .p (cF #[.tmp 7] #[25] [sV 0 2] 1 [0, 1, 2, 3] [(0, ⟨[sV 1 R1.length, sV 2 R2.length], 30, true, 1⟩), (1, (pB R1)), (2, (pB R2))] [(0, ⟨[sV 1 R1.length, sV 2 R2.length], 30, true, 1⟩), (1, (pB R1)), (2, (pB R2)), (3, ⟨[.int .i64 0, .int .i64 1], 3, true, 1⟩)] (sV 3 2) (adepth_n2 R1 R2 zR1 fR1 zR2 fR2 cR1 cR2 F21) (.cons rS .nil) ⟨rfl, ⟨rfl, rfl, rfl, (.cons rS (.cons rS .nil))⟩, rfl, bP, rfl, bP, trivial⟩ ⟨rfl, ⟨rfl, rfl, rfl, (.cons rS (.cons rS .nil))⟩, rfl, bP, rfl, bP, rfl, ⟨rfl, rfl, rfl, (.flats (by kernel_rfl))⟩, trivial⟩ rS) <|
    .a 2 4 <| .nil _ _) ?_
  refine aw_bl 0 59 ?_
  refine aw_lp 119 ?_
  refine al_round ?_
  refine aw_p 239 (
    .a 1 4 <| .nil _ _) ?_
  refine aw_sq 478 479 ?_
  refine aw_tr 956 ?_
  refine aw_sk ?_
  refine then_normal ?_
  refine aw_sq 958 959 ?_
  refine aw_bl 1 1917 ?_
  refine aw_p 3835 (
    .a 5 4 <| .nil _ _) ?_
  refine aw_p 7671 (
    .a 4 4 <| .p (cS (m := 1) (args0 := [sV 0 R1.length]) (pre0 := [(0, (pB R1))]) (v0 := .int .i64 32) #[.tmp 18] #[30] [sV 1 R1.length] [1] [(1, (pB R1))] (.int .i64 32) ((by have h := twicen_own R1 R1.length rfl (by omega); rw [t1] at h; exact h)) (.cons rS .nil) ⟨rfl, bP, trivial⟩ rF) <| .a 1 4 <| .nil _ _) ?_
  refine aw_p 15343 (
    .a 5 4 <| .nil _ _) ?_
  refine aw_sq 30686 30687 ?_
  refine aw_p 61373 (
    .a 3 4 <| .nil _ _) ?_
  refine aw_fl 122747 ?_
  refine aw_sk ?_
  refine then_normal ?_
  refine aw_p1 (
    .a 4 4 <| .nil _ _) ?_
  refine block_normal ?_
  refine then_normal ?_
  refine aw_p1 (
    .a 2 4 <| .nil _ _) ?_
  refine then_normal ?_
  refine al_round ?_
  refine aw_p 239 (
    .a 1 4 <| .nil _ _) ?_
  refine aw_sq 478 479 ?_
  refine aw_tr 956 ?_
  refine aw_sk ?_
  refine then_normal ?_
  refine aw_sq 958 959 ?_
  refine aw_bl 1 1917 ?_
  refine aw_p 3835 (
    .a 5 4 <| .nil _ _) ?_
  refine aw_p 7671 (
    .a 4 4 <| .p (cS (m := 1) (args0 := [sV 0 R2.length]) (pre0 := [(0, (pB R2))]) (v0 := .int .i64 2) #[.tmp 18] #[30] [sV 2 R2.length] [2] [(2, (pB R2))] (.int .i64 2) ((by have h := twicen_own R2 R2.length rfl (by omega); rw [t2] at h; exact h)) (.cons rS .nil) ⟨rfl, bP, trivial⟩ rF) <| .a 1 4 <| .nil _ _) ?_
  refine aw_p 15343 (
    .a 5 4 <| .nil _ _) ?_
  refine aw_sq 30686 30687 ?_
  refine aw_p 61373 (
    .a 3 4 <| .nil _ _) ?_
  refine aw_tr 122746 ?_
  refine aw_p1 (
    .a 3 4 <| .nil _ _) ?_
  refine then_normal ?_
  refine aw_p1 (
    .a 4 4 <| .nil _ _) ?_
  refine block_normal ?_
  refine then_normal ?_
  refine aw_p1 (
    .a 2 4 <| .nil _ _) ?_
  refine then_normal ?_
  refine al_round ?_
  refine aw_p 239 (
    .a 1 4 <| .nil _ _) ?_
  refine aw_sq 478 479 ?_
  refine aw_fl 957 ?_
  refine aw_ex 0 ?_
  refine then_exit ?_
  refine then_exit ?_
  refine block_exit ?_
  refine then_normal ?_
  refine aw_p 31 (
    .a 2 4 <| .nil _ _) ?_
  refine aw_rt ?_
  exact en_ret [.int .i64 30] (by kernel_rfl)
theorem aua_121  :
    AC Try.prog 38 0 ([.slice none 0 0]) [] (.int .i64 3) [] := by
  refine ac_in Try.func38 (fun w0 W pin => ?_)
  refine aw_p 3 (
    .a 1 1 <| .nil _ _) ?_
  refine aw_p 7 (
    .a 3 1 <| .nil _ _) ?_
  refine aw_sq 14 15 ?_
  refine aw_bl 0 29 ?_
  refine aw_p 59 (
    .a 3 1 <| .nil _ _) ?_
  refine aw_fl 119 ?_
  refine aw_p 239 (
    .a 3 1 <| .nil _ _) ?_
  refine aw_tr 478 ?_
  refine aw_p 957 (
    .a 1 1 <| .nil _ _) ?_
  refine aw_rt ?_
  refine block_ret ?_
  refine then_ret ?_
  exact en_ret [.int .i64 3] (by kernel_rfl)
theorem aua_122  :
    AC Try.prog 18 1 ([sV 0 1]) [(0, ⟨[.slice none 0 0], 30, true, 1⟩)] (.int .i64 3) [(0, ⟨[.slice none 0 0], 30, true, 1⟩)] := by
  refine ac_in Try.func18 (fun w0 W pin => ?_)
  refine aw_p 3 (
    .a 1 1 <| .nil _ _) ?_
  refine aw_sq 6 7 ?_
  refine aw_p 13 (
    .a 3 1 <| .nil _ _) ?_
  refine aw_fl 27 ?_
  refine aw_sk ?_
  refine then_normal ?_
  refine aw_sq 14 15 ?_
  refine aw_p 29 (
    .a 3 1 <| .nil _ _) ?_
  refine aw_bl 0 59 ?_
  refine aw_lp 119 ?_
  refine al_round ?_
  refine aw_p 239 (
    .a 1 1 <| .nil _ _) ?_
  refine aw_sq 478 479 ?_
  refine aw_tr 956 ?_
  refine aw_sk ?_
  refine then_normal ?_
  refine aw_sq 958 959 ?_
  refine aw_bl 1 1917 ?_
  refine aw_p 3835 (
    .a 3 1 <| .nil _ _) ?_
  refine aw_p 7671 (
    .a 1 1 <| .p (does_c (aua_121)) <| .a 1 1 <| .nil _ _) ?_
  refine aw_p 15343 (
    .a 2 1 <| .nil _ _) ?_
  refine aw_tr 30686 ?_
  refine aw_p 61373 (
    .a 2 1 <| .nil _ _) ?_
  refine aw_rt ?_
  refine block_ret ?_
  refine then_ret ?_
  refine then_ret ?_
  refine block_ret ?_
  refine then_ret ?_
  exact en_ret [.int .i64 3] (by kernel_rfl)
theorem areaBegun_ok  :
    AC Try.prog 8 0 ([]) [] (.bool true) [] := by
  refine ac_in Try.func8 (fun w0 W pin => ?_)
  refine aw_p 3 (
    .a 1 1 <| .nil _ _) ?_
  refine aw_p 7 (
    .p (does_c (terrkeep1_at_ok 0 0)) <| .p (does_c (terrkeep1_at_ok 4 0)) <| .p (does_c (terrkeep1_at_ok 4 4)) <| .p (does_c (terrkeep1_at_ok 0 4)) <| .a 1 1 <| .p (does_c (terrkeep1_at_ok 1 1)) <| .p (does_c (terrkeep1_at_ok 2 1)) <| .p (does_c (terrkeep1_at_ok 2 2)) <|
    .p (does_c (terrkeep1_at_ok 1 2)) <| .a 3 2 <| .nil _ _) ?_
  refine aw_p 15 (
    .p (does_c (terrkeep1_ringBegun_ok)) <| .a 2 4 <|
    .p (cS #[.tmp 15] #[25] [sV 3 2] [3, 1, 2] [(3, ⟨[sV 1 4, sV 2 4], 30, true, 1⟩), (1, ⟨[.int .i64 0, .int .i64 0, .int .i64 4, .int .i64 0, .int .i64 4, .int .i64 4, .int .i64 0, .int .i64 4], 28, true, 2⟩), (2, ⟨[.int .i64 1, .int .i64 1, .int .i64 2, .int .i64 1, .int .i64 2, .int .i64 2, .int .i64 1, .int .i64 2], 28, true, 2⟩)] (.int .i64 30) (atwice_b Sp.bg1 Sp.bg2 (by decide) (Sp.few_le Sp.bg_few.1 (by decide)) (by decide) (Sp.few_le Sp.bg_few.2 (by decide)) Sp.bg_chk.1 Sp.bg_chk.2 Sp.bg_fit Sp.bg_tw.1 Sp.bg_tw.2) (.cons rS .nil) ⟨rfl, ⟨rfl, rfl, rfl, (.cons rS (.cons rS .nil))⟩, rfl, bP, rfl, bP, trivial⟩ rF) <|
    .a 4 4 <| .p (does_k [4] (aua_122)) <| .a 3 5 <| .nil _ _) ?_
  refine aw_rt ?_
  exact en_ret [.bool true] (by kernel_rfl)
end Go.Proofs.Ytndkhgfecnbmnaa.Am

namespace Go.Proofs.Ytndkhgfecnbmnaa.Am
open Go Go.Proofs
set_option maxRecDepth 100000
set_option maxHeartbeats 4000000
set_option linter.unusedVariables false
set_option linter.unusedSimpArgs false
theorem areaNorms_rest_0 (xs : List Int) (R1 : List (Int × Int)) (zR1 : 1 ≤ R1.length ∧ R1.length ≤ 200) (fR1 : Sp.Few 1000 R1) (cR1 : Sp.chkF R1 = 0) (hm : AC Try.prog 9 1 [.slice (some ⟨0, 0, none⟩) xs.length 0] [(0, ⟨(xs.map i64v), 3, false, 1⟩)] (.slice (some ⟨1, 0, none⟩) 1 0) [(1, ⟨[sV 2 R1.length], 30, true, 1⟩), (2, (pB R1))]) (hn : AC Try.prog 22 2 [.slice (some ⟨0, 0, none⟩) 1 0] [(0, ⟨[sV 1 R1.length], 30, true, 1⟩), (1, (pB R1))] (.slice (some ⟨2, 0, none⟩) 1 0) [(0, ⟨[sV 1 R1.length], 30, true, 1⟩), (1, (pB R1)), (2, ⟨[sV 3 R1.length], 30, true, 1⟩), (3, (pB R1))]) (hq : AC Try.prog 22 2 [.slice (some ⟨0, 0, none⟩) 1 0] [(0, ⟨[sV 1 R1.length], 30, true, 1⟩), (1, (pB (R1.reverse)))] (.slice (some ⟨2, 0, none⟩) 1 0) [(0, ⟨[sV 1 R1.length], 30, true, 1⟩), (1, (pB (R1.reverse))), (2, ⟨[sV 3 R1.length], 30, true, 1⟩), (3, (pB R1))]) (x px py : Int) (hx : AC Try.prog 10 0 [.int .i64 x] [] (.agg #[.int .i64 px, .int .i64 py]) []) (bpx : -40 ≤ px) (cpx : px ≤ 40) (bpy : -40 ≤ py) (cpy : py ≤ 40) (a1 : Int) (t1 : Sp.twF R1 1 0 = a1) (b1 : -100000 ≤ a1 ∧ a1 ≤ 100000) (ap : 0 < 0 + (Sp.mx a1 (0 - a1))) (w0 : World) (W : Nat → Prop) (pin : Ren) (ds : List Deferred) :
    AW ⟨w0, W, Try.f5.ntmps, 1, pin, ds⟩ Try.prog (sb Try.f5 63) (mkSt 1 [(5, sV 1 1), (6, .pointer (some ⟨3, 0, none⟩)), (7, .pointer (some ⟨4, 0, none⟩)), (19, .func (.func 73) #[] #[.pointer (some ⟨5, 0, none⟩)])] [(2, (pB R1)), (4, ⟨[sV 6 1], 25, true, 1⟩), (6, ⟨[sV 7 R1.length], 30, true, 1⟩), (7, (pB (R1.reverse))), (0, ⟨(xs.map i64v), 3, false, 1⟩), (1, ⟨[sV 2 R1.length], 30, true, 1⟩), (3, ⟨[.int .i64 px, .int .i64 py], 28, true, 2⟩), (5, ⟨[sV 1 1], 25, true, 1⟩)]) (EndQ Try.prog Try.f5 (.bool true) []) := by
  have m1 : 0 ≤ Sp.mx a1 (0 - a1) ∧ Sp.mx a1 (0 - a1) ≤ 100000 := (by unfold Sp.mx; split <;> omega)
  refine aw_p 127 (
    .a 1 8 <|
    .p (cF #[.tmp 30] #[25] [sV 1 1] 2 [1, 2, 8, 9] [(1, ⟨[sV 2 R1.length], 30, true, 1⟩), (2, (pB R1))] [(1, ⟨[sV 2 R1.length], 30, true, 1⟩), (2, (pB R1)), (8, ⟨[sV 9 R1.length], 30, true, 1⟩), (9, (pB R1))] (sV 8 1) (hn) (.cons rS .nil) ⟨rfl, ⟨rfl, rfl, rfl, (.cons rS .nil)⟩, rfl, bP, trivial⟩ ⟨rfl, ⟨rfl, rfl, rfl, (.cons rS .nil)⟩, rfl, bP, rfl, ⟨rfl, rfl, rfl, (.cons rS .nil)⟩, rfl, bP, trivial⟩ rS) <|
    .a 1 10 <| .nil _ _) ?_
  refine aw_d 255 (
    .a 1 10 <| .p (cS #[.tmp 32] #[25] [sV 1 1] [1, 2] [(1, ⟨[sV 2 R1.length], 30, true, 1⟩), (2, (pB R1))] (.int .i64 0) (acheck_n1 R1 zR1 fR1 cR1) (.cons rS .nil) ⟨rfl, ⟨rfl, rfl, rfl, (.cons rS .nil)⟩, rfl, bP, trivial⟩ rF) <| .a 3 10 <|
    .p (cS #[.tmp 36] #[25] [sV 8 1] [8, 9] [(8, ⟨[sV 9 R1.length], 30, true, 1⟩), (9, (pB R1))] (.int .i64 0) (acheck_n1 R1 zR1 fR1 cR1) (.cons rS .nil) ⟨rfl, ⟨rfl, rfl, rfl, (.cons rS .nil)⟩, rfl, bP, trivial⟩ rF) <| .a 11 10 <|
    .p (cF #[.tmp 48] #[25] [sV 6 1] 2 [6, 7, 10, 11] [(6, ⟨[sV 7 R1.length], 30, true, 1⟩), (7, (pB (R1.reverse)))] [(6, ⟨[sV 7 R1.length], 30, true, 1⟩), (7, (pB (R1.reverse))), (10, ⟨[sV 11 R1.length], 30, true, 1⟩), (11, (pB R1))] (sV 10 1) (hq) (.cons rS .nil) ⟨rfl, ⟨rfl, rfl, rfl, (.cons rS .nil)⟩, rfl, bP, trivial⟩ ⟨rfl, ⟨rfl, rfl, rfl, (.cons rS .nil)⟩, rfl, bP, rfl, ⟨rfl, rfl, rfl, (.cons rS .nil)⟩, rfl, bP, trivial⟩ rS) <|
    .a 1 12 <|
    .p (cS #[.tmp 49, .tmp 50, .func 30] #[25, 25, 49] [sV 10 1, sV 8 1, .func (.func 30) #[] #[]] [10, 11, 8, 9] [(10, ⟨[sV 11 R1.length], 30, true, 1⟩), (11, (pB R1)), (8, ⟨[sV 9 R1.length], 30, true, 1⟩), (9, (pB R1))] (.bool true) (eqf_1 R1 zR1) (.cons rS (.cons rS (.cons rF .nil))) ⟨rfl, ⟨rfl, rfl, rfl, (.cons rS .nil)⟩, rfl, bP, rfl, ⟨rfl, rfl, rfl, (.cons rS .nil)⟩, rfl, bP, trivial⟩ rF) <|
    .a 3 12 <|
    .p (cF #[.tmp 54] #[25] [sV 8 1] 2 [8, 9, 12, 13] [(8, ⟨[sV 9 R1.length], 30, true, 1⟩), (9, (pB R1))] [(8, ⟨[sV 9 R1.length], 30, true, 1⟩), (9, (pB R1)), (12, ⟨[sV 13 R1.length], 30, true, 1⟩), (13, (pB R1))] (sV 12 1) (hn) (.cons rS .nil) ⟨rfl, ⟨rfl, rfl, rfl, (.cons rS .nil)⟩, rfl, bP, trivial⟩ ⟨rfl, ⟨rfl, rfl, rfl, (.cons rS .nil)⟩, rfl, bP, rfl, ⟨rfl, rfl, rfl, (.cons rS .nil)⟩, rfl, bP, trivial⟩ rS) <|
    .a 1 14 <|
    .p (cS #[.tmp 55, .tmp 56, .func 30] #[25, 25, 49] [sV 12 1, sV 8 1, .func (.func 30) #[] #[]] [12, 13, 8, 9] [(12, ⟨[sV 13 R1.length], 30, true, 1⟩), (13, (pB R1)), (8, ⟨[sV 9 R1.length], 30, true, 1⟩), (9, (pB R1))] (.bool true) (eqf_1 R1 zR1) (.cons rS (.cons rS (.cons rF .nil))) ⟨rfl, ⟨rfl, rfl, rfl, (.cons rS .nil)⟩, rfl, bP, rfl, ⟨rfl, rfl, rfl, (.cons rS .nil)⟩, rfl, bP, trivial⟩ rF) <|
    .a 4 14 <|
    .p (cS #[.tmp 60, .tmp 61] #[25, 28] [sV 8 1, .agg #[.int .i64 px, .int .i64 py]] [8, 9] [(8, ⟨[sV 9 R1.length], 30, true, 1⟩), (9, (pB R1))] (.int .i64 (Sp.ahF [Sp.hasF R1 (Sp.lim 1048576 px) (Sp.lim 1048576 py) 0 (-1)] (-1))) (ahas_1 R1 zR1 fR1 px py) (.cons rS (.cons rF .nil)) ⟨rfl, ⟨rfl, rfl, rfl, (.cons rS .nil)⟩, rfl, bP, trivial⟩ rF) <|
    .a 2 14 <|
    .p (cS #[.tmp 63, .tmp 64] #[25, 28] [sV 1 1, .agg #[.int .i64 px, .int .i64 py]] [1, 2] [(1, ⟨[sV 2 R1.length], 30, true, 1⟩), (2, (pB R1))] (.int .i64 (Sp.ahF [Sp.hasF R1 (Sp.lim 1048576 px) (Sp.lim 1048576 py) 0 (-1)] (-1))) (ahas_1 R1 zR1 fR1 px py) (.cons rS (.cons rF .nil)) ⟨rfl, ⟨rfl, rfl, rfl, (.cons rS .nil)⟩, rfl, bP, trivial⟩ rF) <|
    .p (does_b true ((show ((Sp.ahF [Sp.hasF R1 (Sp.lim 1048576 px) (Sp.lim 1048576 py) 0 (-1)] (-1)) == (Sp.ahF [Sp.hasF R1 (Sp.lim 1048576 px) (Sp.lim 1048576 py) 0 (-1)] (-1))) = true from by simp))) <| .a 3 14 <|
    .p (cS #[.tmp 69] #[25] [sV 8 1] [8, 9] [(8, ⟨[sV 9 R1.length], 30, true, 1⟩), (9, (pB R1))] (.int .i64 (0 + (Sp.mx a1 (0 - a1)))) (atwice_n1 R1 zR1 fR1 cR1 a1 t1 b1) (.cons rS .nil) ⟨rfl, ⟨rfl, rfl, rfl, (.cons rS .nil)⟩, rfl, bP, trivial⟩ rF) <| .a 1 14 <|
    .p (cS #[.tmp 71] #[25] [sV 1 1] [1, 2] [(1, ⟨[sV 2 R1.length], 30, true, 1⟩), (2, (pB R1))] (.int .i64 (0 + (Sp.mx a1 (0 - a1)))) (atwice_n1 R1 zR1 fR1 cR1 a1 t1 b1) (.cons rS .nil) ⟨rfl, ⟨rfl, rfl, rfl, (.cons rS .nil)⟩, rfl, bP, trivial⟩ rF) <|
    .p (does_b true ((show ((0 + (Sp.mx a1 (0 - a1))) == (0 + (Sp.mx a1 (0 - a1)))) = true from by simp))) <| .a 3 14 <|
    .p (cS #[.tmp 76] #[25] [sV 1 1] [1, 2] [(1, ⟨[sV 2 R1.length], 30, true, 1⟩), (2, (pB R1))] (.int .i64 (0 + (Sp.mx a1 (0 - a1)))) (atwice_n1 R1 zR1 fR1 cR1 a1 t1 b1) (.cons rS .nil) ⟨rfl, ⟨rfl, rfl, rfl, (.cons rS .nil)⟩, rfl, bP, trivial⟩ rF) <| .p (does_b true (decide_eq_true ap)) <| .a 2 14 <| .nil _ _) ?_
  refine aw_rt ?_
  exact en_ret [.bool true] (by kernel_rfl)
theorem areaNorms_0 (xs : List Int) (R1 : List (Int × Int)) (zR1 : 1 ≤ R1.length ∧ R1.length ≤ 200) (fR1 : Sp.Few 1000 R1) (cR1 : Sp.chkF R1 = 0) (hm : AC Try.prog 9 1 [.slice (some ⟨0, 0, none⟩) xs.length 0] [(0, ⟨(xs.map i64v), 3, false, 1⟩)] (.slice (some ⟨1, 0, none⟩) 1 0) [(1, ⟨[sV 2 R1.length], 30, true, 1⟩), (2, (pB R1))]) (hn : AC Try.prog 22 2 [.slice (some ⟨0, 0, none⟩) 1 0] [(0, ⟨[sV 1 R1.length], 30, true, 1⟩), (1, (pB R1))] (.slice (some ⟨2, 0, none⟩) 1 0) [(0, ⟨[sV 1 R1.length], 30, true, 1⟩), (1, (pB R1)), (2, ⟨[sV 3 R1.length], 30, true, 1⟩), (3, (pB R1))]) (hq : AC Try.prog 22 2 [.slice (some ⟨0, 0, none⟩) 1 0] [(0, ⟨[sV 1 R1.length], 30, true, 1⟩), (1, (pB (R1.reverse)))] (.slice (some ⟨2, 0, none⟩) 1 0) [(0, ⟨[sV 1 R1.length], 30, true, 1⟩), (1, (pB (R1.reverse))), (2, ⟨[sV 3 R1.length], 30, true, 1⟩), (3, (pB R1))]) (x px py : Int) (hx : AC Try.prog 10 0 [.int .i64 x] [] (.agg #[.int .i64 px, .int .i64 py]) []) (bpx : -40 ≤ px) (cpx : px ≤ 40) (bpy : -40 ≤ py) (cpy : py ≤ 40) (a1 : Int) (t1 : Sp.twF R1 1 0 = a1) (b1 : -100000 ≤ a1 ∧ a1 ≤ 100000) (ap : 0 < 0 + (Sp.mx a1 (0 - a1))) : AC Try.prog 5 1 [sV 0 xs.length, .int .i64 x] [(0, ⟨(xs.map i64v), 3, false, 1⟩)] (.bool true) [] := by
  have m1 : 0 ≤ Sp.mx a1 (0 - a1) ∧ Sp.mx a1 (0 - a1) ≤ 100000 := (by unfold Sp.mx; split <;> omega)
  refine acm_in Try.func5 (fun w0 W pin => ?_)
  refine ax_sq 2 3 (mkSt 1 [(0, sV 0 xs.length), (1, .int .i64 x)] [(0, ⟨(xs.map i64v), 3, false, 1⟩)]) ?_ ?_
  · skip
    refine aw_p1 (
      .a 1 1 <| .nil _ _) ?_
    exact ⟨rfl, weak_b (by kernel_rfl) (by kernel_rfl) (by simp [closedB, valsB, valB, List.all_eq_true, List.mem_flatMap, List.mem_range, List.mem_map, i64v, ptc, flat1]; try (intros; simp [valsB, valB, flat1]); try decide)⟩
  refine ax_sq 6 7 (mkSt 1 [(0, sV 0 xs.length), (1, .int .i64 x)] [(0, ⟨(xs.map i64v), 3, false, 1⟩)]) ?_ ?_
  · skip
    refine aw_p 13 (
      .p (does_c (areaBegun_ok)) <| .a 1 1 <| .nil _ _) ?_
    refine aw_fl 27 ?_
    refine aw_sk ?_
    exact ⟨rfl, weak_b (by kernel_rfl) (by kernel_rfl) (by simp [closedB, valsB, valB, List.all_eq_true, List.mem_flatMap, List.mem_range, List.mem_map, i64v, ptc, flat1]; try (intros; simp [valsB, valB, flat1]); try decide)⟩
  refine ax_sq 14 15 (mkSt 1 [(5, sV 1 1), (6, .pointer (some ⟨3, 0, none⟩))] [(0, ⟨(xs.map i64v), 3, false, 1⟩), (1, ⟨[sV 2 R1.length], 30, true, 1⟩), (2, (pB R1)), (3, ⟨[.int .i64 px, .int .i64 py], 28, true, 2⟩)]) ?_ ?_
  · skip
    refine aw_p1 (
      .a 1 1 <|
      .p (cF #[.tmp 14] #[22] [sV 0 xs.length] 2 [0, 1, 2] [(0, ⟨(xs.map i64v), 3, false, 1⟩)] [(1, ⟨[sV 2 R1.length], 30, true, 1⟩), (2, (pB R1))] (sV 1 1) (hm) (.cons rS .nil) ⟨rfl, ⟨rfl, rfl, rfl, (.flats (flats_map (fun _ => rfl) _))⟩, trivial⟩ ⟨rfl, ⟨rfl, rfl, rfl, (.cons rS .nil)⟩, rfl, bP, trivial⟩ rS) <|
      .a 1 3 <| .p (does_c (hx)) <| .a 3 3 <| .nil _ _) ?_
    exact ⟨rfl, weak_b (by kernel_rfl) (by kernel_rfl) (by simp [closedB, valsB, valB, List.all_eq_true, List.mem_flatMap, List.mem_range, List.mem_map, i64v, ptc, flat1]; try (intros; simp [valsB, valB, flat1]); try decide)⟩
  refine ax_sq 30 31 (mkSt 1 [(5, sV 1 1), (6, .pointer (some ⟨3, 0, none⟩)), (7, .pointer (some ⟨4, 0, none⟩))] [(0, ⟨(xs.map i64v), 3, false, 1⟩), (1, ⟨[sV 2 R1.length], 30, true, 1⟩), (2, (pB R1)), (3, ⟨[.int .i64 px, .int .i64 py], 28, true, 2⟩), (4, ⟨[.slice none 0 0], 25, true, 1⟩)]) ?_ ?_
  · skip
    refine aw_p1 (
      .a 1 4 <| .nil _ _) ?_
    exact ⟨rfl, weak_b (by kernel_rfl) (by kernel_rfl) (by simp [closedB, valsB, valB, List.all_eq_true, List.mem_flatMap, List.mem_range, List.mem_map, i64v, ptc, flat1]; try (intros; simp [valsB, valB, flat1]); try decide)⟩
  refine ax_loop 124 63 0 (.rangeFunc (.tmp 19) #[20, 21] (.region 6 #[{ dst := some 9, op := .assign (.tmp 21), type := 30, pos := "plane.go:196", after := #[], guard := none }] false) (sb (rndOf Try.f5 125) 1)) (mkSt 1 [(5, sV 1 1), (6, .pointer (some ⟨3, 0, none⟩)), (7, .pointer (some ⟨4, 0, none⟩)), (19, .func (.func 73) #[] #[.pointer (some ⟨5, 0, none⟩)])] [(0, ⟨(xs.map i64v), 3, false, 1⟩), (1, ⟨[sV 2 R1.length], 30, true, 1⟩), (2, (pB R1)), (3, ⟨[.int .i64 px, .int .i64 py], 28, true, 2⟩), (4, ⟨[.slice none 0 0], 25, true, 1⟩), (5, ⟨[sV 1 1], 25, true, 1⟩)]) ?_ (fun ρ a w hr => ?_)
  · skip
    refine aw_p1 (
      .a 1 5 <|
      .p (cF #[.tmp 18] #[25] [sV 1 1] 1 [1, 2, 5] [(1, ⟨[sV 2 R1.length], 30, true, 1⟩), (2, (pB R1))] [(1, ⟨[sV 2 R1.length], 30, true, 1⟩), (2, (pB R1)), (5, ⟨[sV 1 1], 25, true, 1⟩)] (.func (.func 73) #[] #[.pointer (some ⟨5, 0, none⟩)]) (backward_1 R1) (.cons rS .nil) ⟨rfl, ⟨rfl, rfl, rfl, (.cons rS .nil)⟩, rfl, bP, trivial⟩ ⟨rfl, ⟨rfl, rfl, rfl, (.cons rS .nil)⟩, rfl, bP, rfl, ⟨rfl, rfl, rfl, (.cons rS .nil)⟩, trivial⟩ (.funcL (.flats (by kernel_rfl)) (.cons (.ptr _ _ (by decide)) .nil))) <| .nil _ _) ?_
    exact ⟨rfl, weak_b (by kernel_rfl) (by kernel_rfl) (by simp [closedB, valsB, valB, List.all_eq_true, List.mem_flatMap, List.mem_range, List.mem_map, i64v, ptc, flat1]; try (intros; simp [valsB, valB, flat1]); try decide)⟩
  · exact wp_range' (C := ⟨w0, W, Try.f5.ntmps, 1, pin, []⟩) [(5, sV 1 1), (6, .pointer (some ⟨3, 0, none⟩)), (7, .pointer (some ⟨4, 0, none⟩)), (19, .func (.func 73) #[] #[.pointer (some ⟨5, 0, none⟩)])] [(0, ⟨(xs.map i64v), 3, false, 1⟩), (1, ⟨[sV 2 R1.length], 30, true, 1⟩), (2, (pB R1)), (3, ⟨[.int .i64 px, .int .i64 py], 28, true, 2⟩), (4, ⟨[.slice none 0 0], 25, true, 1⟩), (5, ⟨[sV 1 1], 25, true, 1⟩)] [(2, (pB R1)), (4, ⟨[.slice none 0 0], 25, true, 1⟩)] [(2, (pB R1)), (4, ⟨[sV 6 1], 25, true, 1⟩), (6, ⟨[sV 7 R1.length], 30, true, 1⟩), (7, (pB (R1.reverse)))] [(0, ⟨(xs.map i64v), 3, false, 1⟩), (1, ⟨[sV 2 R1.length], 30, true, 1⟩), (3, ⟨[.int .i64 px, .int .i64 py], 28, true, 2⟩), (5, ⟨[sV 1 1], 25, true, 1⟩)] [(7, .pointer (some ⟨4, 0, none⟩))] 6 19 20 21 9 73 1 (anL1 R1) (anU1 R1) 5 1 0 0 ⟨[sV 1 1], 25, true, 1⟩ ⟨[sV 2 R1.length], 30, true, 1⟩ rfl hr (back_n1) back_enters (rounds_1 R1 zR1) (fun D ρ' w1 h1 h2 h3 h4 => wp_mono (areaNorms_rest_0 xs R1 zR1 fR1 cR1 hm hn hq x px py hx bpx cpx bpy cpy a1 t1 b1 ap w1 _ pin [mark D] ρ' _ w1 h4) (after_of h1 h2 h3)) rfl rfl rfl rfl rfl rfl (fun j => match j with | ⟨0, _⟩ => rfl) (hcl := (by simp [closedB, valsB, valB, List.all_eq_true, List.mem_flatMap, List.mem_range, List.mem_map, i64v, ptc, flat1]; try (intros; simp [valsB, valB, flat1]); try decide))
end Go.Proofs.Ytndkhgfecnbmnaa.Am

namespace Go.Proofs.Ytndkhgfecnbmnaa.Am
open Go Go.Proofs
set_option maxRecDepth 100000
set_option maxHeartbeats 4000000
set_option linter.unusedVariables false
set_option linter.unusedSimpArgs false
theorem areaNorms_rest_1 (xs : List Int) (R1 R2 : List (Int × Int)) (zR1 : 1 ≤ R1.length ∧ R1.length ≤ 200) (fR1 : Sp.Few 1000 R1) (zR2 : 1 ≤ R2.length ∧ R2.length ≤ 200) (fR2 : Sp.Few 1000 R2) (cR1 : Sp.chkF R1 = 0) (cR2 : Sp.chkF R2 = 0) (F21 : Sp.Fit R2 R1 1 (-1)) (hm : AC Try.prog 9 1 [.slice (some ⟨0, 0, none⟩) xs.length 0] [(0, ⟨(xs.map i64v), 3, false, 1⟩)] (.slice (some ⟨1, 0, none⟩) 2 0) [(1, ⟨[sV 2 R1.length, sV 3 R2.length], 30, true, 1⟩), (2, (pB R1)), (3, (pB R2))]) (hn : AC Try.prog 22 3 [.slice (some ⟨0, 0, none⟩) 2 0] [(0, ⟨[sV 1 R1.length, sV 2 R2.length], 30, true, 1⟩), (1, (pB R1)), (2, (pB R2))] (.slice (some ⟨3, 0, none⟩) 2 0) [(0, ⟨[sV 1 R1.length, sV 2 R2.length], 30, true, 1⟩), (1, (pB R1)), (2, (pB R2)), (3, ⟨[sV 4 R1.length, sV 5 R2.length], 30, true, 1⟩), (4, (pB R1)), (5, (pB R2))]) (hq : AC Try.prog 22 3 [.slice (some ⟨0, 0, none⟩) 2 0] [(0, ⟨[sV 1 R2.length, sV 2 R1.length], 30, true, 1⟩), (1, (pB (R2.reverse))), (2, (pB (R1.reverse)))] (.slice (some ⟨3, 0, none⟩) 2 0) [(0, ⟨[sV 1 R2.length, sV 2 R1.length], 30, true, 1⟩), (1, (pB (R2.reverse))), (2, (pB (R1.reverse))), (3, ⟨[sV 4 R1.length, sV 5 R2.length], 30, true, 1⟩), (4, (pB R1)), (5, (pB R2))]) (x px py : Int) (hx : AC Try.prog 10 0 [.int .i64 x] [] (.agg #[.int .i64 px, .int .i64 py]) []) (bpx : -40 ≤ px) (cpx : px ≤ 40) (bpy : -40 ≤ py) (cpy : py ≤ 40) (a1 a2 : Int) (t1 : Sp.twF R1 1 0 = a1) (b1 : -100000 ≤ a1 ∧ a1 ≤ 100000) (t2 : Sp.twF R2 1 0 = a2) (b2 : -100000 ≤ a2 ∧ a2 ≤ 100000) (ap : 0 < (0 + (Sp.mx a1 (0 - a1))) + (0 - (Sp.mx a2 (0 - a2)))) (w0 : World) (W : Nat → Prop) (pin : Ren) (ds : List Deferred) :
    AW ⟨w0, W, Try.f5.ntmps, 1, pin, ds⟩ Try.prog (sb Try.f5 63) (mkSt 1 [(5, sV 1 2), (6, .pointer (some ⟨4, 0, none⟩)), (7, .pointer (some ⟨5, 0, none⟩)), (19, .func (.func 73) #[] #[.pointer (some ⟨6, 0, none⟩)])] [(2, (pB R1)), (3, (pB R2)), (5, ⟨[sV 7 2], 25, true, 1⟩), (7, ⟨[sV 8 R2.length, sV 9 R1.length], 30, true, 1⟩), (8, (pB (R2.reverse))), (9, (pB (R1.reverse))), (0, ⟨(xs.map i64v), 3, false, 1⟩), (1, ⟨[sV 2 R1.length, sV 3 R2.length], 30, true, 1⟩), (4, ⟨[.int .i64 px, .int .i64 py], 28, true, 2⟩), (6, ⟨[sV 1 2], 25, true, 1⟩)]) (EndQ Try.prog Try.f5 (.bool true) []) := by
  have m1 : 0 ≤ Sp.mx a1 (0 - a1) ∧ Sp.mx a1 (0 - a1) ≤ 100000 := (by unfold Sp.mx; split <;> omega); have m2 : 0 ≤ Sp.mx a2 (0 - a2) ∧ Sp.mx a2 (0 - a2) ≤ 100000 := (by unfold Sp.mx; split <;> omega)
  refine aw_p 127 (
    .a 1 10 <|
    .p (cF #[.tmp 30] #[25] [sV 1 2] 3 [1, 2, 3, 10, 11, 12] [(1, ⟨[sV 2 R1.length, sV 3 R2.length], 30, true, 1⟩), (2, (pB R1)), (3, (pB R2))] [(1, ⟨[sV 2 R1.length, sV 3 R2.length], 30, true, 1⟩), (2, (pB R1)), (3, (pB R2)), (10, ⟨[sV 11 R1.length, sV 12 R2.length], 30, true, 1⟩), (11, (pB R1)), (12, (pB R2))] (sV 10 2) (hn) (.cons rS .nil) ⟨rfl, ⟨rfl, rfl, rfl, (.cons rS (.cons rS .nil))⟩, rfl, bP, rfl, bP, trivial⟩ ⟨rfl, ⟨rfl, rfl, rfl, (.cons rS (.cons rS .nil))⟩, rfl, bP, rfl, bP, rfl, ⟨rfl, rfl, rfl, (.cons rS (.cons rS .nil))⟩, rfl, bP, rfl, bP, trivial⟩ rS) <|
    .a 1 13 <| .nil _ _) ?_
  refine aw_d 255 (
    .a 1 13 <| .p (cS #[.tmp 32] #[25] [sV 1 2] [1, 2, 3] [(1, ⟨[sV 2 R1.length, sV 3 R2.length], 30, true, 1⟩), (2, (pB R1)), (3, (pB R2))] (.int .i64 0) (acheck_n2 R1 R2 zR1 fR1 zR2 fR2 cR1 cR2 F21) (.cons rS .nil) ⟨rfl, ⟨rfl, rfl, rfl, (.cons rS (.cons rS .nil))⟩, rfl, bP, rfl, bP, trivial⟩ rF) <|
    .a 3 13 <|
    .p (cS #[.tmp 36] #[25] [sV 10 2] [10, 11, 12] [(10, ⟨[sV 11 R1.length, sV 12 R2.length], 30, true, 1⟩), (11, (pB R1)), (12, (pB R2))] (.int .i64 0) (acheck_n2 R1 R2 zR1 fR1 zR2 fR2 cR1 cR2 F21) (.cons rS .nil) ⟨rfl, ⟨rfl, rfl, rfl, (.cons rS (.cons rS .nil))⟩, rfl, bP, rfl, bP, trivial⟩ rF) <|
    .a 11 13 <|
    .p (cF #[.tmp 48] #[25] [sV 7 2] 3 [7, 8, 9, 13, 14, 15] [(7, ⟨[sV 8 R2.length, sV 9 R1.length], 30, true, 1⟩), (8, (pB (R2.reverse))), (9, (pB (R1.reverse)))] [(7, ⟨[sV 8 R2.length, sV 9 R1.length], 30, true, 1⟩), (8, (pB (R2.reverse))), (9, (pB (R1.reverse))), (13, ⟨[sV 14 R1.length, sV 15 R2.length], 30, true, 1⟩), (14, (pB R1)), (15, (pB R2))] (sV 13 2) (hq) (.cons rS .nil) ⟨rfl, ⟨rfl, rfl, rfl, (.cons rS (.cons rS .nil))⟩, rfl, bP, rfl, bP, trivial⟩ ⟨rfl, ⟨rfl, rfl, rfl, (.cons rS (.cons rS .nil))⟩, rfl, bP, rfl, bP, rfl, ⟨rfl, rfl, rfl, (.cons rS (.cons rS .nil))⟩, rfl, bP, rfl, bP, trivial⟩ rS) <|
    .a 1 16 <|
    .p (cS #[.tmp 49, .tmp 50, .func 30] #[25, 25, 49] [sV 13 2, sV 10 2, .func (.func 30) #[] #[]] [13, 14, 15, 10, 11, 12] [(13, ⟨[sV 14 R1.length, sV 15 R2.length], 30, true, 1⟩), (14, (pB R1)), (15, (pB R2)), (10, ⟨[sV 11 R1.length, sV 12 R2.length], 30, true, 1⟩), (11, (pB R1)), (12, (pB R2))] (.bool true) (eqf_2 R1 R2 zR1 zR2) (.cons rS (.cons rS (.cons rF .nil))) ⟨rfl, ⟨rfl, rfl, rfl, (.cons rS (.cons rS .nil))⟩, rfl, bP, rfl, bP, rfl, ⟨rfl, rfl, rfl, (.cons rS (.cons rS .nil))⟩, rfl, bP, rfl, bP, trivial⟩ rF) <|
    .a 3 16 <|
    .p (cF #[.tmp 54] #[25] [sV 10 2] 3 [10, 11, 12, 16, 17, 18] [(10, ⟨[sV 11 R1.length, sV 12 R2.length], 30, true, 1⟩), (11, (pB R1)), (12, (pB R2))] [(10, ⟨[sV 11 R1.length, sV 12 R2.length], 30, true, 1⟩), (11, (pB R1)), (12, (pB R2)), (16, ⟨[sV 17 R1.length, sV 18 R2.length], 30, true, 1⟩), (17, (pB R1)), (18, (pB R2))] (sV 16 2) (hn) (.cons rS .nil) ⟨rfl, ⟨rfl, rfl, rfl, (.cons rS (.cons rS .nil))⟩, rfl, bP, rfl, bP, trivial⟩ ⟨rfl, ⟨rfl, rfl, rfl, (.cons rS (.cons rS .nil))⟩, rfl, bP, rfl, bP, rfl, ⟨rfl, rfl, rfl, (.cons rS (.cons rS .nil))⟩, rfl, bP, rfl, bP, trivial⟩ rS) <|
    .a 1 19 <|
    .p (cS #[.tmp 55, .tmp 56, .func 30] #[25, 25, 49] [sV 16 2, sV 10 2, .func (.func 30) #[] #[]] [16, 17, 18, 10, 11, 12] [(16, ⟨[sV 17 R1.length, sV 18 R2.length], 30, true, 1⟩), (17, (pB R1)), (18, (pB R2)), (10, ⟨[sV 11 R1.length, sV 12 R2.length], 30, true, 1⟩), (11, (pB R1)), (12, (pB R2))] (.bool true) (eqf_2 R1 R2 zR1 zR2) (.cons rS (.cons rS (.cons rF .nil))) ⟨rfl, ⟨rfl, rfl, rfl, (.cons rS (.cons rS .nil))⟩, rfl, bP, rfl, bP, rfl, ⟨rfl, rfl, rfl, (.cons rS (.cons rS .nil))⟩, rfl, bP, rfl, bP, trivial⟩ rF) <|
    .a 4 19 <|
    .p (cS #[.tmp 60, .tmp 61] #[25, 28] [sV 10 2, .agg #[.int .i64 px, .int .i64 py]] [10, 11, 12] [(10, ⟨[sV 11 R1.length, sV 12 R2.length], 30, true, 1⟩), (11, (pB R1)), (12, (pB R2))] (.int .i64 (Sp.ahF [Sp.hasF R1 (Sp.lim 1048576 px) (Sp.lim 1048576 py) 0 (-1), Sp.hasF R2 (Sp.lim 1048576 px) (Sp.lim 1048576 py) 0 (-1)] (-1))) (ahas_2 R1 R2 zR1 fR1 zR2 fR2 px py) (.cons rS (.cons rF .nil)) ⟨rfl, ⟨rfl, rfl, rfl, (.cons rS (.cons rS .nil))⟩, rfl, bP, rfl, bP, trivial⟩ rF) <|
    .a 2 19 <|
    .p (cS #[.tmp 63, .tmp 64] #[25, 28] [sV 1 2, .agg #[.int .i64 px, .int .i64 py]] [1, 2, 3] [(1, ⟨[sV 2 R1.length, sV 3 R2.length], 30, true, 1⟩), (2, (pB R1)), (3, (pB R2))] (.int .i64 (Sp.ahF [Sp.hasF R1 (Sp.lim 1048576 px) (Sp.lim 1048576 py) 0 (-1), Sp.hasF R2 (Sp.lim 1048576 px) (Sp.lim 1048576 py) 0 (-1)] (-1))) (ahas_2 R1 R2 zR1 fR1 zR2 fR2 px py) (.cons rS (.cons rF .nil)) ⟨rfl, ⟨rfl, rfl, rfl, (.cons rS (.cons rS .nil))⟩, rfl, bP, rfl, bP, trivial⟩ rF) <|
    .p (does_b true ((show ((Sp.ahF [Sp.hasF R1 (Sp.lim 1048576 px) (Sp.lim 1048576 py) 0 (-1), Sp.hasF R2 (Sp.lim 1048576 px) (Sp.lim 1048576 py) 0 (-1)] (-1)) == (Sp.ahF [Sp.hasF R1 (Sp.lim 1048576 px) (Sp.lim 1048576 py) 0 (-1), Sp.hasF R2 (Sp.lim 1048576 px) (Sp.lim 1048576 py) 0 (-1)] (-1))) = true from by simp))) <|
    .a 3 19 <|
    .p (cS #[.tmp 69] #[25] [sV 10 2] [10, 11, 12] [(10, ⟨[sV 11 R1.length, sV 12 R2.length], 30, true, 1⟩), (11, (pB R1)), (12, (pB R2))] (.int .i64 ((0 + (Sp.mx a1 (0 - a1))) + (0 - (Sp.mx a2 (0 - a2))))) (atwice_n2 R1 R2 zR1 fR1 zR2 fR2 cR1 cR2 F21 a1 a2 t1 b1 t2 b2) (.cons rS .nil) ⟨rfl, ⟨rfl, rfl, rfl, (.cons rS (.cons rS .nil))⟩, rfl, bP, rfl, bP, trivial⟩ rF) <|
    .a 1 19 <|
    .p (cS #[.tmp 71] #[25] [sV 1 2] [1, 2, 3] [(1, ⟨[sV 2 R1.length, sV 3 R2.length], 30, true, 1⟩), (2, (pB R1)), (3, (pB R2))] (.int .i64 ((0 + (Sp.mx a1 (0 - a1))) + (0 - (Sp.mx a2 (0 - a2))))) (atwice_n2 R1 R2 zR1 fR1 zR2 fR2 cR1 cR2 F21 a1 a2 t1 b1 t2 b2) (.cons rS .nil) ⟨rfl, ⟨rfl, rfl, rfl, (.cons rS (.cons rS .nil))⟩, rfl, bP, rfl, bP, trivial⟩ rF) <|
    .p (does_b true ((show (((0 + (Sp.mx a1 (0 - a1))) + (0 - (Sp.mx a2 (0 - a2)))) == ((0 + (Sp.mx a1 (0 - a1))) + (0 - (Sp.mx a2 (0 - a2))))) = true from by simp))) <| .a 3 19 <|
    .p (cS #[.tmp 76] #[25] [sV 1 2] [1, 2, 3] [(1, ⟨[sV 2 R1.length, sV 3 R2.length], 30, true, 1⟩), (2, (pB R1)), (3, (pB R2))] (.int .i64 ((0 + (Sp.mx a1 (0 - a1))) + (0 - (Sp.mx a2 (0 - a2))))) (atwice_n2 R1 R2 zR1 fR1 zR2 fR2 cR1 cR2 F21 a1 a2 t1 b1 t2 b2) (.cons rS .nil) ⟨rfl, ⟨rfl, rfl, rfl, (.cons rS (.cons rS .nil))⟩, rfl, bP, rfl, bP, trivial⟩ rF) <|
    .p (does_b true (decide_eq_true ap)) <| .a 2 19 <| .nil _ _) ?_
  refine aw_rt ?_
  exact en_ret [.bool true] (by kernel_rfl)
theorem areaNorms_1 (xs : List Int) (R1 R2 : List (Int × Int)) (zR1 : 1 ≤ R1.length ∧ R1.length ≤ 200) (fR1 : Sp.Few 1000 R1) (zR2 : 1 ≤ R2.length ∧ R2.length ≤ 200) (fR2 : Sp.Few 1000 R2) (cR1 : Sp.chkF R1 = 0) (cR2 : Sp.chkF R2 = 0) (F21 : Sp.Fit R2 R1 1 (-1)) (hm : AC Try.prog 9 1 [.slice (some ⟨0, 0, none⟩) xs.length 0] [(0, ⟨(xs.map i64v), 3, false, 1⟩)] (.slice (some ⟨1, 0, none⟩) 2 0) [(1, ⟨[sV 2 R1.length, sV 3 R2.length], 30, true, 1⟩), (2, (pB R1)), (3, (pB R2))]) (hn : AC Try.prog 22 3 [.slice (some ⟨0, 0, none⟩) 2 0] [(0, ⟨[sV 1 R1.length, sV 2 R2.length], 30, true, 1⟩), (1, (pB R1)), (2, (pB R2))] (.slice (some ⟨3, 0, none⟩) 2 0) [(0, ⟨[sV 1 R1.length, sV 2 R2.length], 30, true, 1⟩), (1, (pB R1)), (2, (pB R2)), (3, ⟨[sV 4 R1.length, sV 5 R2.length], 30, true, 1⟩), (4, (pB R1)), (5, (pB R2))]) (hq : AC Try.prog 22 3 [.slice (some ⟨0, 0, none⟩) 2 0] [(0, ⟨[sV 1 R2.length, sV 2 R1.length], 30, true, 1⟩), (1, (pB (R2.reverse))), (2, (pB (R1.reverse)))] (.slice (some ⟨3, 0, none⟩) 2 0) [(0, ⟨[sV 1 R2.length, sV 2 R1.length], 30, true, 1⟩), (1, (pB (R2.reverse))), (2, (pB (R1.reverse))), (3, ⟨[sV 4 R1.length, sV 5 R2.length], 30, true, 1⟩), (4, (pB R1)), (5, (pB R2))]) (x px py : Int) (hx : AC Try.prog 10 0 [.int .i64 x] [] (.agg #[.int .i64 px, .int .i64 py]) []) (bpx : -40 ≤ px) (cpx : px ≤ 40) (bpy : -40 ≤ py) (cpy : py ≤ 40) (a1 a2 : Int) (t1 : Sp.twF R1 1 0 = a1) (b1 : -100000 ≤ a1 ∧ a1 ≤ 100000) (t2 : Sp.twF R2 1 0 = a2) (b2 : -100000 ≤ a2 ∧ a2 ≤ 100000) (ap : 0 < (0 + (Sp.mx a1 (0 - a1))) + (0 - (Sp.mx a2 (0 - a2)))) : AC Try.prog 5 1 [sV 0 xs.length, .int .i64 x] [(0, ⟨(xs.map i64v), 3, false, 1⟩)] (.bool true) [] := by
  have m1 : 0 ≤ Sp.mx a1 (0 - a1) ∧ Sp.mx a1 (0 - a1) ≤ 100000 := (by unfold Sp.mx; split <;> omega); have m2 : 0 ≤ Sp.mx a2 (0 - a2) ∧ Sp.mx a2 (0 - a2) ≤ 100000 := (by unfold Sp.mx; split <;> omega)
  refine acm_in Try.func5 (fun w0 W pin => ?_)
  refine ax_sq 2 3 (mkSt 1 [(0, sV 0 xs.length), (1, .int .i64 x)] [(0, ⟨(xs.map i64v), 3, false, 1⟩)]) ?_ ?_
  · skip
    refine aw_p1 (
      .a 1 1 <| .nil _ _) ?_
    exact ⟨rfl, weak_b (by kernel_rfl) (by kernel_rfl) (by simp [closedB, valsB, valB, List.all_eq_true, List.mem_flatMap, List.mem_range, List.mem_map, i64v, ptc, flat1]; try (intros; simp [valsB, valB, flat1]); try decide)⟩
  refine ax_sq 6 7 (mkSt 1 [(0, sV 0 xs.length), (1, .int .i64 x)] [(0, ⟨(xs.map i64v), 3, false, 1⟩)]) ?_ ?_
  · skip
    refine aw_p 13 (
      .p (does_c (areaBegun_ok)) <| .a 1 1 <| .nil _ _) ?_
    refine aw_fl 27 ?_
    refine aw_sk ?_
    exact ⟨rfl, weak_b (by kernel_rfl) (by kernel_rfl) (by simp [closedB, valsB, valB, List.all_eq_true, List.mem_flatMap, List.mem_range, List.mem_map, i64v, ptc, flat1]; try (intros; simp [valsB, valB, flat1]); try decide)⟩
  refine ax_sq 14 15 (mkSt 1 [(5, sV 1 2), (6, .pointer (some ⟨4, 0, none⟩))] [(0, ⟨(xs.map i64v), 3, false, 1⟩), (1, ⟨[sV 2 R1.length, sV 3 R2.length], 30, true, 1⟩), (2, (pB R1)), (3, (pB R2)), (4, ⟨[.int .i64 px, .int .i64 py], 28, true, 2⟩)]) ?_ ?_
  · skip
    refine aw_p1 (
      .a 1 1 <|
      .p (cF #[.tmp 14] #[22] [sV 0 xs.length] 3 [0, 1, 2, 3] [(0, ⟨(xs.map i64v), 3, false, 1⟩)] [(1, ⟨[sV 2 R1.length, sV 3 R2.length], 30, true, 1⟩), (2, (pB R1)), (3, (pB R2))] (sV 1 2) (hm) (.cons rS .nil) ⟨rfl, ⟨rfl, rfl, rfl, (.flats (flats_map (fun _ => rfl) _))⟩, trivial⟩ ⟨rfl, ⟨rfl, rfl, rfl, (.cons rS (.cons rS .nil))⟩, rfl, bP, rfl, bP, trivial⟩ rS) <|
      .a 1 4 <| .p (does_c (hx)) <| .a 3 4 <| .nil _ _) ?_
    exact ⟨rfl, weak_b (by kernel_rfl) (by kernel_rfl) (by simp [closedB, valsB, valB, List.all_eq_true, List.mem_flatMap, List.mem_range, List.mem_map, i64v, ptc, flat1]; try (intros; simp [valsB, valB, flat1]); try decide)⟩
  refine ax_sq 30 31 (mkSt 1 [(5, sV 1 2), (6, .pointer (some ⟨4, 0, none⟩)), (7, .pointer (some ⟨5, 0, none⟩))] [(0, ⟨(xs.map i64v), 3, false, 1⟩), (1, ⟨[sV 2 R1.length, sV 3 R2.length], 30, true, 1⟩), (2, (pB R1)), (3, (pB R2)), (4, ⟨[.int .i64 px, .int .i64 py], 28, true, 2⟩), (5, ⟨[.slice none 0 0], 25, true, 1⟩)]) ?_ ?_
  · skip
    refine aw_p1 (
      .a 1 5 <| .nil _ _) ?_
    exact ⟨rfl, weak_b (by kernel_rfl) (by kernel_rfl) (by simp [closedB, valsB, valB, List.all_eq_true, List.mem_flatMap, List.mem_range, List.mem_map, i64v, ptc, flat1]; try (intros; simp [valsB, valB, flat1]); try decide)⟩
  refine ax_loop 124 63 0 (.rangeFunc (.tmp 19) #[20, 21] (.region 6 #[{ dst := some 9, op := .assign (.tmp 21), type := 30, pos := "plane.go:196", after := #[], guard := none }] false) (sb (rndOf Try.f5 125) 1)) (mkSt 1 [(5, sV 1 2), (6, .pointer (some ⟨4, 0, none⟩)), (7, .pointer (some ⟨5, 0, none⟩)), (19, .func (.func 73) #[] #[.pointer (some ⟨6, 0, none⟩)])] [(0, ⟨(xs.map i64v), 3, false, 1⟩), (1, ⟨[sV 2 R1.length, sV 3 R2.length], 30, true, 1⟩), (2, (pB R1)), (3, (pB R2)), (4, ⟨[.int .i64 px, .int .i64 py], 28, true, 2⟩), (5, ⟨[.slice none 0 0], 25, true, 1⟩), (6, ⟨[sV 1 2], 25, true, 1⟩)]) ?_ (fun ρ a w hr => ?_)
  · skip
    refine aw_p1 (
      .a 1 6 <|
      .p (cF #[.tmp 18] #[25] [sV 1 2] 1 [1, 2, 3, 6] [(1, ⟨[sV 2 R1.length, sV 3 R2.length], 30, true, 1⟩), (2, (pB R1)), (3, (pB R2))] [(1, ⟨[sV 2 R1.length, sV 3 R2.length], 30, true, 1⟩), (2, (pB R1)), (3, (pB R2)), (6, ⟨[sV 1 2], 25, true, 1⟩)] (.func (.func 73) #[] #[.pointer (some ⟨6, 0, none⟩)]) (backward_2 R1 R2) (.cons rS .nil) ⟨rfl, ⟨rfl, rfl, rfl, (.cons rS (.cons rS .nil))⟩, rfl, bP, rfl, bP, trivial⟩ ⟨rfl, ⟨rfl, rfl, rfl, (.cons rS (.cons rS .nil))⟩, rfl, bP, rfl, bP, rfl, ⟨rfl, rfl, rfl, (.cons rS .nil)⟩, trivial⟩ (.funcL (.flats (by kernel_rfl)) (.cons (.ptr _ _ (by decide)) .nil))) <| .nil _ _) ?_
    exact ⟨rfl, weak_b (by kernel_rfl) (by kernel_rfl) (by simp [closedB, valsB, valB, List.all_eq_true, List.mem_flatMap, List.mem_range, List.mem_map, i64v, ptc, flat1]; try (intros; simp [valsB, valB, flat1]); try decide)⟩
  · exact wp_range' (C := ⟨w0, W, Try.f5.ntmps, 1, pin, []⟩) [(5, sV 1 2), (6, .pointer (some ⟨4, 0, none⟩)), (7, .pointer (some ⟨5, 0, none⟩)), (19, .func (.func 73) #[] #[.pointer (some ⟨6, 0, none⟩)])] [(0, ⟨(xs.map i64v), 3, false, 1⟩), (1, ⟨[sV 2 R1.length, sV 3 R2.length], 30, true, 1⟩), (2, (pB R1)), (3, (pB R2)), (4, ⟨[.int .i64 px, .int .i64 py], 28, true, 2⟩), (5, ⟨[.slice none 0 0], 25, true, 1⟩), (6, ⟨[sV 1 2], 25, true, 1⟩)] [(2, (pB R1)), (3, (pB R2)), (5, ⟨[.slice none 0 0], 25, true, 1⟩)] [(2, (pB R1)), (3, (pB R2)), (5, ⟨[sV 7 2], 25, true, 1⟩), (7, ⟨[sV 8 R2.length, sV 9 R1.length], 30, true, 1⟩), (8, (pB (R2.reverse))), (9, (pB (R1.reverse)))] [(0, ⟨(xs.map i64v), 3, false, 1⟩), (1, ⟨[sV 2 R1.length, sV 3 R2.length], 30, true, 1⟩), (4, ⟨[.int .i64 px, .int .i64 py], 28, true, 2⟩), (6, ⟨[sV 1 2], 25, true, 1⟩)] [(7, .pointer (some ⟨5, 0, none⟩))] 7 19 20 21 9 73 2 (anL2 R1 R2) (anU2 R1 R2) 6 1 0 0 ⟨[sV 1 2], 25, true, 1⟩ ⟨[sV 2 R1.length, sV 3 R2.length], 30, true, 1⟩ rfl hr (back_n2) back_enters (rounds_2 R1 R2 zR1 zR2) (fun D ρ' w1 h1 h2 h3 h4 => wp_mono (areaNorms_rest_1 xs R1 R2 zR1 fR1 zR2 fR2 cR1 cR2 F21 hm hn hq x px py hx bpx cpx bpy cpy a1 a2 t1 b1 t2 b2 ap w1 _ pin [mark D] ρ' _ w1 h4) (after_of h1 h2 h3)) rfl rfl rfl rfl rfl rfl (fun j => match j with | ⟨0, _⟩ => rfl | ⟨1, _⟩ => rfl) (hcl := (by simp [closedB, valsB, valB, List.all_eq_true, List.mem_flatMap, List.mem_range, List.mem_map, i64v, ptc, flat1]; try (intros; simp [valsB, valB, flat1]); try decide))
end Go.Proofs.Ytndkhgfecnbmnaa.Am
