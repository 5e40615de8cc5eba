/-
  What is begun: closed walks.
-/
import Derived.Test.YtadifmimefmcnaaProg
import Derived.Test.YtadifmimefmcnaaAm16
import Derived.Test.YtadifmimefmcnaaAm25
import Derived.Test.YtadifmimefmcnaaPt1
namespace Go.Proofs.Ytadifmimefmcnaa.Am
open Go Go.Proofs
set_option maxRecDepth 100000
set_option maxHeartbeats 4000000
set_option linter.unusedVariables false
set_option linter.unusedSimpArgs false

theorem au_hullBegun1_1  :
    AC Try.prog 62 0 ([.int .i64 0, .int .i64 0]) [] (.agg #[.int .i64 0, .int .i64 0]) [] := by
  refine ac_in Try.func62 (fun w0 W pin => ?_)
  refine aw_p 3 (
    .a 1 1 <| .nil _ _) ?_
  refine aw_p 7 (
    .a 4 2 <| .nil _ _) ?_
  refine aw_rt ?_
  exact en_ret [.agg #[.int .i64 0, .int .i64 0]] (by kernel_rfl)

theorem au_hullBegun1_2  :
    AC Try.prog 62 0 ([.int .i64 2, .int .i64 0]) [] (.agg #[.int .i64 2, .int .i64 0]) [] := by
  refine ac_in Try.func62 (fun w0 W pin => ?_)
  refine aw_p 3 (
    .a 1 1 <| .nil _ _) ?_
  refine aw_p 7 (
    .a 4 2 <| .nil _ _) ?_
  refine aw_rt ?_
  exact en_ret [.agg #[.int .i64 2, .int .i64 0]] (by kernel_rfl)

theorem au_hullBegun1_3  :
    AC Try.prog 62 0 ([.int .i64 1, .int .i64 1]) [] (.agg #[.int .i64 1, .int .i64 1]) [] := by
  refine ac_in Try.func62 (fun w0 W pin => ?_)
  refine aw_p 3 (
    .a 1 1 <| .nil _ _) ?_
  refine aw_p 7 (
    .a 4 2 <| .nil _ _) ?_
  refine aw_rt ?_
  exact en_ret [.agg #[.int .i64 1, .int .i64 1]] (by kernel_rfl)

theorem au_hullBegun1_4  :
    AC Try.prog 62 0 ([.int .i64 2, .int .i64 2]) [] (.agg #[.int .i64 2, .int .i64 2]) [] := by
  refine ac_in Try.func62 (fun w0 W pin => ?_)
  refine aw_p 3 (
    .a 1 1 <| .nil _ _) ?_
  refine aw_p 7 (
    .a 4 2 <| .nil _ _) ?_
  refine aw_rt ?_
  exact en_ret [.agg #[.int .i64 2, .int .i64 2]] (by kernel_rfl)

theorem au_hullBegun1_5  :
    AC Try.prog 62 0 ([.int .i64 0, .int .i64 2]) [] (.agg #[.int .i64 0, .int .i64 2]) [] := by
  refine ac_in Try.func62 (fun w0 W pin => ?_)
  refine aw_p 3 (
    .a 1 1 <| .nil _ _) ?_
  refine aw_p 7 (
    .a 4 2 <| .nil _ _) ?_
  refine aw_rt ?_
  exact en_ret [.agg #[.int .i64 0, .int .i64 2]] (by kernel_rfl)

theorem au_hullBegun1_6  :
    AC Try.prog 101 0 ([.int .i64 0, .int .i64 1048576]) [] (.int .i64 0) [] := by
  refine ac_in Try.func101 (fun w0 W pin => ?_)
  refine aw_p 3 (
    .a 1 1 <| .nil _ _) ?_
  refine aw_p 7 (
    .a 7 1 <| .nil _ _) ?_
  refine aw_rt ?_
  exact en_ret [.int .i64 0] (by kernel_rfl)

theorem au_hullBegun1_7  :
    AC Try.prog 56 0 ([.agg #[.int .i64 0, .int .i64 0]]) [] (.agg #[.int .i64 0, .int .i64 0]) [] := by
  refine ac_in Try.func56 (fun w0 W pin => ?_)
  refine aw_p 3 (
    .a 2 1 <| .nil _ _) ?_
  refine aw_d 7 (
    .a 2 3 <| .p (does_c (au_hullBegun1_6)) <| .a 2 3 <| .p (does_c (au_hullBegun1_6)) <| .a 2 3 <| .nil _ _) ?_
  refine aw_rt ?_
  exact en_ret [.agg #[.int .i64 0, .int .i64 0]] (by kernel_rfl)

theorem au_hullBegun1_8  :
    AC Try.prog 101 0 ([.int .i64 2, .int .i64 1048576]) [] (.int .i64 2) [] := by
  refine ac_in Try.func101 (fun w0 W pin => ?_)
  refine aw_p 3 (
    .a 1 1 <| .nil _ _) ?_
  refine aw_p 7 (
    .a 7 1 <| .nil _ _) ?_
  refine aw_rt ?_
  exact en_ret [.int .i64 2] (by kernel_rfl)

theorem au_hullBegun1_9  :
    AC Try.prog 56 0 ([.agg #[.int .i64 2, .int .i64 0]]) [] (.agg #[.int .i64 2, .int .i64 0]) [] := by
  refine ac_in Try.func56 (fun w0 W pin => ?_)
  refine aw_p 3 (
    .a 2 1 <| .nil _ _) ?_
  refine aw_d 7 (
    .a 2 3 <| .p (does_c (au_hullBegun1_8)) <| .a 2 3 <| .p (does_c (au_hullBegun1_6)) <| .a 2 3 <| .nil _ _) ?_
  refine aw_rt ?_
  exact en_ret [.agg #[.int .i64 2, .int .i64 0]] (by kernel_rfl)

theorem au_hullBegun1_10  :
    AC Try.prog 101 0 ([.int .i64 1, .int .i64 1048576]) [] (.int .i64 1) [] := by
  refine ac_in Try.func101 (fun w0 W pin => ?_)
  refine aw_p 3 (
    .a 1 1 <| .nil _ _) ?_
  refine aw_p 7 (
    .a 7 1 <| .nil _ _) ?_
  refine aw_rt ?_
  exact en_ret [.int .i64 1] (by kernel_rfl)

theorem au_hullBegun1_11  :
    AC Try.prog 56 0 ([.agg #[.int .i64 1, .int .i64 1]]) [] (.agg #[.int .i64 1, .int .i64 1]) [] := by
  refine ac_in Try.func56 (fun w0 W pin => ?_)
  refine aw_p 3 (
    .a 2 1 <| .nil _ _) ?_
  refine aw_d 7 (
    .a 2 3 <| .p (does_c (au_hullBegun1_10)) <| .a 2 3 <| .p (does_c (au_hullBegun1_10)) <| .a 2 3 <| .nil _ _) ?_
  refine aw_rt ?_
  exact en_ret [.agg #[.int .i64 1, .int .i64 1]] (by kernel_rfl)

theorem au_hullBegun1_12  :
    AC Try.prog 56 0 ([.agg #[.int .i64 2, .int .i64 2]]) [] (.agg #[.int .i64 2, .int .i64 2]) [] := by
  refine ac_in Try.func56 (fun w0 W pin => ?_)
  refine aw_p 3 (
    .a 2 1 <| .nil _ _) ?_
  refine aw_d 7 (
    .a 2 3 <| .p (does_c (au_hullBegun1_8)) <| .a 2 3 <| .p (does_c (au_hullBegun1_8)) <| .a 2 3 <| .nil _ _) ?_
  refine aw_rt ?_
  exact en_ret [.agg #[.int .i64 2, .int .i64 2]] (by kernel_rfl)

theorem au_hullBegun1_13  :
    AC Try.prog 56 0 ([.agg #[.int .i64 0, .int .i64 2]]) [] (.agg #[.int .i64 0, .int .i64 2]) [] := by
  refine ac_in Try.func56 (fun w0 W pin => ?_)
  refine aw_p 3 (
    .a 2 1 <| .nil _ _) ?_
  refine aw_d 7 (
    .a 2 3 <| .p (does_c (au_hullBegun1_6)) <| .a 2 3 <| .p (does_c (au_hullBegun1_8)) <| .a 2 3 <| .nil _ _) ?_
  refine aw_rt ?_
  exact en_ret [.agg #[.int .i64 0, .int .i64 2]] (by kernel_rfl)

theorem au_hullBegun1_14  :
    AC Try.prog 145 0 ([.int .u64 5]) [] (.int .i64 3) [] := by
  refine ac_in Try.func145 (fun w0 W pin => ?_)
  refine aw_p 3 (
    .a 1 1 <| .nil _ _) ?_
  refine aw_sq 6 7 ?_
  refine aw_p 13 (
    .a 2 1 <| .nil _ _) ?_
  refine aw_fl 27 ?_
  refine aw_sk ?_
  refine then_normal ?_
  refine aw_sq 14 15 ?_
  refine aw_p 29 (
    .a 2 1 <| .nil _ _) ?_
  refine aw_fl 59 ?_
  refine aw_sk ?_
  refine then_normal ?_
  refine aw_sq 30 31 ?_
  refine aw_p 61 (
    .a 2 1 <| .nil _ _) ?_
  refine aw_fl 123 ?_
  refine aw_sk ?_
  refine then_normal ?_
  refine aw_p 63 (
    .a 3 1 <|
    .p (does_val (v' := .int .u8 3) (does_ixs (s := (ByteArray.mk #[0, 1, 2, 2, 3, 3, 3, 3, 4, 4, 4, 4, 4, 4, 4, 4, 5, 5, 5, 5, 5, 5, 5, 5, 5, 5, 5, 5, 5, 5, 5, 5, 6, 6, 6, 6, 6, 6, 6, 6, 6, 6, 6, 6, 6, 6, 6, 6, 6, 6, 6, 6, 6, 6, 6, 6, 6, 6, 6, 6, 6, 6, 6, 6, 7, 7, 7, 7, 7, 7, 7, 7, 7, 7, 7, 7, 7, 7, 7, 7, 7, 7, 7, 7, 7, 7, 7, 7, 7, 7, 7, 7, 7, 7, 7, 7, 7, 7, 7, 7, 7, 7, 7, 7, 7, 7, 7, 7, 7, 7, 7, 7, 7, 7, 7, 7, 7, 7, 7, 7, 7, 7, 7, 7, 7, 7, 7, 7, 8, 8, 8, 8, 8, 8, 8, 8, 8, 8, 8, 8, 8, 8, 8, 8, 8, 8, 8, 8, 8, 8, 8, 8, 8, 8, 8, 8, 8, 8, 8, 8, 8, 8, 8, 8, 8, 8, 8, 8, 8, 8, 8, 8, 8, 8, 8, 8, 8, 8, 8, 8, 8, 8, 8, 8, 8, 8, 8, 8, 8, 8, 8, 8, 8, 8, 8, 8, 8, 8, 8, 8, 8, 8, 8, 8, 8, 8, 8, 8, 8, 8, 8, 8, 8, 8, 8, 8, 8, 8, 8, 8, 8, 8, 8, 8, 8, 8, 8, 8, 8, 8, 8, 8, 8, 8, 8, 8, 8, 8, 8, 8, 8, 8, 8, 8, 8, 8, 8, 8, 8, 8, 8, 8, 8, 8, 8, 8])) (j := 5) (b := (3 : UInt8)) (by decide) (by kernel_rfl)) (by kernel_rfl)) <|
    .a 3 1 <| .nil _ _) ?_
  refine aw_rt ?_
  exact en_ret [.int .i64 3] (by kernel_rfl)

theorem au_hullBegun1_15  :
    AC Try.prog 114 0 ([.int .u64 5]) [] (.int .i64 3) [] := by
  refine ac_in Try.func114 (fun w0 W pin => ?_)
  refine aw_p 3 (
    .a 1 1 <| .nil _ _) ?_
  refine aw_sq 6 7 ?_
  refine aw_fl 13 ?_
  refine aw_sk ?_
  refine then_normal ?_
  refine aw_p 15 (
    .a 1 1 <| .p (does_c (au_hullBegun1_14)) <| .a 1 1 <| .nil _ _) ?_
  refine aw_rt ?_
  exact en_ret [.int .i64 3] (by kernel_rfl)

theorem au_hullBegun1_16  :
    AC Try.prog 116 0 ([.int .i64 2]) [] (.bool false) [] := by
  refine ac_in Try.func116 (fun w0 W pin => ?_)
  refine aw_p 3 (
    .a 1 1 <| .nil _ _) ?_
  refine aw_p 7 (
    .a 4 1 <| .nil _ _) ?_
  refine aw_rt ?_
  exact en_ret [.bool false] (by kernel_rfl)

theorem au_hullBegun1_17  :
    AC Try.prog 116 0 ([.int .i64 0]) [] (.bool false) [] := by
  refine ac_in Try.func116 (fun w0 W pin => ?_)
  refine aw_p 3 (
    .a 1 1 <| .nil _ _) ?_
  refine aw_p 7 (
    .a 4 1 <| .nil _ _) ?_
  refine aw_rt ?_
  exact en_ret [.bool false] (by kernel_rfl)

theorem au_hullBegun1_18  :
    AC Try.prog 79 0 ([.int .i64 2, .int .i64 0]) [] (.int .i64 1) [] := by
  refine ac_in Try.func79 (fun w0 W pin => ?_)
  refine aw_p 3 (
    .a 1 1 <| .nil _ _) ?_
  refine aw_p 7 (
    .a 1 1 <| .p (does_c (au_hullBegun1_16)) <| .a 1 1 <| .nil _ _) ?_
  refine aw_p 15 (
    .a 1 1 <| .p (does_c (au_hullBegun1_17)) <| .a 1 1 <| .nil _ _) ?_
  refine aw_sq 30 31 ?_
  refine aw_p 61 (
    .a 1 1 <| .nil _ _) ?_
  refine aw_fl 123 ?_
  refine aw_sk ?_
  refine then_normal ?_
  refine aw_sq 62 63 ?_
  refine aw_p 125 (
    .a 1 1 <| .nil _ _) ?_
  refine aw_fl 251 ?_
  refine aw_sk ?_
  refine then_normal ?_
  refine aw_sq 126 127 ?_
  refine aw_p 253 (
    .a 3 1 <| .nil _ _) ?_
  refine aw_fl 507 ?_
  refine aw_sk ?_
  refine then_normal ?_
  refine aw_sq 254 255 ?_
  refine aw_p 509 (
    .a 3 1 <| .nil _ _) ?_
  refine aw_tr 1018 ?_
  refine aw_p 2037 (
    .a 1 1 <| .nil _ _) ?_
  refine aw_rt ?_
  refine then_ret ?_
  exact en_ret [.int .i64 1] (by kernel_rfl)

theorem au_hullBegun1_19  :
    AC Try.prog 82 0 ([.agg #[.int .i64 2, .int .i64 0], .agg #[.int .i64 0, .int .i64 0]]) [] (.int .i64 1) [] := by
  refine ac_in Try.func82 (fun w0 W pin => ?_)
  refine aw_p 3 (
    .a 3 1 <| .nil _ _) ?_
  refine aw_sq 6 7 ?_
  refine aw_p 13 (
    .a 4 3 <| .p (does_c (au_hullBegun1_18)) <| .a 1 3 <| .nil _ _) ?_
  refine aw_p 27 (
    .a 2 3 <| .nil _ _) ?_
  refine aw_tr 54 ?_
  refine aw_p 109 (
    .a 2 3 <| .nil _ _) ?_
  refine aw_rt ?_
  refine then_ret ?_
  exact en_ret [.int .i64 1] (by kernel_rfl)

theorem au_hullBegun1_20  :
    AC Try.prog 116 0 ([.int .i64 1]) [] (.bool false) [] := by
  refine ac_in Try.func116 (fun w0 W pin => ?_)
  refine aw_p 3 (
    .a 1 1 <| .nil _ _) ?_
  refine aw_p 7 (
    .a 4 1 <| .nil _ _) ?_
  refine aw_rt ?_
  exact en_ret [.bool false] (by kernel_rfl)

theorem au_hullBegun1_21  :
    AC Try.prog 79 0 ([.int .i64 1, .int .i64 2]) [] (.int .i64 (-1)) [] := by
  refine ac_in Try.func79 (fun w0 W pin => ?_)
  refine aw_p 3 (
    .a 1 1 <| .nil _ _) ?_
  refine aw_p 7 (
    .a 1 1 <| .p (does_c (au_hullBegun1_20)) <| .a 1 1 <| .nil _ _) ?_
  refine aw_p 15 (
    .a 1 1 <| .p (does_c (au_hullBegun1_16)) <| .a 1 1 <| .nil _ _) ?_
  refine aw_sq 30 31 ?_
  refine aw_p 61 (
    .a 1 1 <| .nil _ _) ?_
  refine aw_fl 123 ?_
  refine aw_sk ?_
  refine then_normal ?_
  refine aw_sq 62 63 ?_
  refine aw_p 125 (
    .a 1 1 <| .nil _ _) ?_
  refine aw_fl 251 ?_
  refine aw_sk ?_
  refine then_normal ?_
  refine aw_sq 126 127 ?_
  refine aw_p 253 (
    .a 3 1 <| .nil _ _) ?_
  refine aw_tr 506 ?_
  refine aw_p 1013 (
    .a 1 1 <| .nil _ _) ?_
  refine aw_rt ?_
  refine then_ret ?_
  exact en_ret [.int .i64 (-1)] (by kernel_rfl)

theorem au_hullBegun1_22  :
    AC Try.prog 82 0 ([.agg #[.int .i64 1, .int .i64 1], .agg #[.int .i64 2, .int .i64 0]]) [] (.int .i64 (-1)) [] := by
  refine ac_in Try.func82 (fun w0 W pin => ?_)
  refine aw_p 3 (
    .a 3 1 <| .nil _ _) ?_
  refine aw_sq 6 7 ?_
  refine aw_p 13 (
    .a 4 3 <| .p (does_c (au_hullBegun1_21)) <| .a 1 3 <| .nil _ _) ?_
  refine aw_p 27 (
    .a 2 3 <| .nil _ _) ?_
  refine aw_tr 54 ?_
  refine aw_p 109 (
    .a 2 3 <| .nil _ _) ?_
  refine aw_rt ?_
  refine then_ret ?_
  exact en_ret [.int .i64 (-1)] (by kernel_rfl)

theorem au_hullBegun1_23  :
    AC Try.prog 79 0 ([.int .i64 1, .int .i64 0]) [] (.int .i64 1) [] := by
  refine ac_in Try.func79 (fun w0 W pin => ?_)
  refine aw_p 3 (
    .a 1 1 <| .nil _ _) ?_
  refine aw_p 7 (
    .a 1 1 <| .p (does_c (au_hullBegun1_20)) <| .a 1 1 <| .nil _ _) ?_
  refine aw_p 15 (
    .a 1 1 <| .p (does_c (au_hullBegun1_17)) <| .a 1 1 <| .nil _ _) ?_
  refine aw_sq 30 31 ?_
  refine aw_p 61 (
    .a 1 1 <| .nil _ _) ?_
  refine aw_fl 123 ?_
  refine aw_sk ?_
  refine then_normal ?_
  refine aw_sq 62 63 ?_
  refine aw_p 125 (
    .a 1 1 <| .nil _ _) ?_
  refine aw_fl 251 ?_
  refine aw_sk ?_
  refine then_normal ?_
  refine aw_sq 126 127 ?_
  refine aw_p 253 (
    .a 3 1 <| .nil _ _) ?_
  refine aw_fl 507 ?_
  refine aw_sk ?_
  refine then_normal ?_
  refine aw_sq 254 255 ?_
  refine aw_p 509 (
    .a 3 1 <| .nil _ _) ?_
  refine aw_tr 1018 ?_
  refine aw_p 2037 (
    .a 1 1 <| .nil _ _) ?_
  refine aw_rt ?_
  refine then_ret ?_
  exact en_ret [.int .i64 1] (by kernel_rfl)

theorem au_hullBegun1_24  :
    AC Try.prog 82 0 ([.agg #[.int .i64 1, .int .i64 1], .agg #[.int .i64 0, .int .i64 0]]) [] (.int .i64 1) [] := by
  refine ac_in Try.func82 (fun w0 W pin => ?_)
  refine aw_p 3 (
    .a 3 1 <| .nil _ _) ?_
  refine aw_sq 6 7 ?_
  refine aw_p 13 (
    .a 4 3 <| .p (does_c (au_hullBegun1_23)) <| .a 1 3 <| .nil _ _) ?_
  refine aw_p 27 (
    .a 2 3 <| .nil _ _) ?_
  refine aw_tr 54 ?_
  refine aw_p 109 (
    .a 2 3 <| .nil _ _) ?_
  refine aw_rt ?_
  refine then_ret ?_
  exact en_ret [.int .i64 1] (by kernel_rfl)

theorem au_hullBegun1_25  :
    AC Try.prog 79 0 ([.int .i64 2, .int .i64 2]) [] (.int .i64 0) [] := by
  refine ac_in Try.func79 (fun w0 W pin => ?_)
  refine aw_p 3 (
    .a 1 1 <| .nil _ _) ?_
  refine aw_p 7 (
    .a 1 1 <| .p (does_c (au_hullBegun1_16)) <| .a 1 1 <| .nil _ _) ?_
  refine aw_p 15 (
    .a 1 1 <| .p (does_c (au_hullBegun1_16)) <| .a 1 1 <| .nil _ _) ?_
  refine aw_sq 30 31 ?_
  refine aw_p 61 (
    .a 1 1 <| .nil _ _) ?_
  refine aw_fl 123 ?_
  refine aw_sk ?_
  refine then_normal ?_
  refine aw_sq 62 63 ?_
  refine aw_p 125 (
    .a 1 1 <| .nil _ _) ?_
  refine aw_fl 251 ?_
  refine aw_sk ?_
  refine then_normal ?_
  refine aw_sq 126 127 ?_
  refine aw_p 253 (
    .a 3 1 <| .nil _ _) ?_
  refine aw_fl 507 ?_
  refine aw_sk ?_
  refine then_normal ?_
  refine aw_sq 254 255 ?_
  refine aw_p 509 (
    .a 3 1 <| .nil _ _) ?_
  refine aw_fl 1019 ?_
  refine aw_sk ?_
  refine then_normal ?_
  refine aw_p 511 (
    .a 1 1 <| .nil _ _) ?_
  refine aw_rt ?_
  exact en_ret [.int .i64 0] (by kernel_rfl)

theorem au_hullBegun1_26  :
    AC Try.prog 82 0 ([.agg #[.int .i64 2, .int .i64 2], .agg #[.int .i64 2, .int .i64 0]]) [] (.int .i64 1) [] := by
  refine ac_in Try.func82 (fun w0 W pin => ?_)
  refine aw_p 3 (
    .a 3 1 <| .nil _ _) ?_
  refine aw_sq 6 7 ?_
  refine aw_p 13 (
    .a 4 3 <| .p (does_c (au_hullBegun1_25)) <| .a 1 3 <| .nil _ _) ?_
  refine aw_p 27 (
    .a 2 3 <| .nil _ _) ?_
  refine aw_fl 55 ?_
  refine aw_sk ?_
  refine then_normal ?_
  refine aw_p 15 (
    .a 4 3 <| .p (does_c (au_hullBegun1_18)) <| .a 1 3 <| .nil _ _) ?_
  refine aw_rt ?_
  exact en_ret [.int .i64 1] (by kernel_rfl)

theorem au_hullBegun1_27  :
    AC Try.prog 79 0 ([.int .i64 0, .int .i64 2]) [] (.int .i64 (-1)) [] := by
  refine ac_in Try.func79 (fun w0 W pin => ?_)
  refine aw_p 3 (
    .a 1 1 <| .nil _ _) ?_
  refine aw_p 7 (
    .a 1 1 <| .p (does_c (au_hullBegun1_17)) <| .a 1 1 <| .nil _ _) ?_
  refine aw_p 15 (
    .a 1 1 <| .p (does_c (au_hullBegun1_16)) <| .a 1 1 <| .nil _ _) ?_
  refine aw_sq 30 31 ?_
  refine aw_p 61 (
    .a 1 1 <| .nil _ _) ?_
  refine aw_fl 123 ?_
  refine aw_sk ?_
  refine then_normal ?_
  refine aw_sq 62 63 ?_
  refine aw_p 125 (
    .a 1 1 <| .nil _ _) ?_
  refine aw_fl 251 ?_
  refine aw_sk ?_
  refine then_normal ?_
  refine aw_sq 126 127 ?_
  refine aw_p 253 (
    .a 3 1 <| .nil _ _) ?_
  refine aw_tr 506 ?_
  refine aw_p 1013 (
    .a 1 1 <| .nil _ _) ?_
  refine aw_rt ?_
  refine then_ret ?_
  exact en_ret [.int .i64 (-1)] (by kernel_rfl)

theorem au_hullBegun1_28  :
    AC Try.prog 82 0 ([.agg #[.int .i64 0, .int .i64 2], .agg #[.int .i64 2, .int .i64 2]]) [] (.int .i64 (-1)) [] := by
  refine ac_in Try.func82 (fun w0 W pin => ?_)
  refine aw_p 3 (
    .a 3 1 <| .nil _ _) ?_
  refine aw_sq 6 7 ?_
  refine aw_p 13 (
    .a 4 3 <| .p (does_c (au_hullBegun1_27)) <| .a 1 3 <| .nil _ _) ?_
  refine aw_p 27 (
    .a 2 3 <| .nil _ _) ?_
  refine aw_tr 54 ?_
  refine aw_p 109 (
    .a 2 3 <| .nil _ _) ?_
  refine aw_rt ?_
  refine then_ret ?_
  exact en_ret [.int .i64 (-1)] (by kernel_rfl)

theorem au_hullBegun1_29  :
    AC Try.prog 82 0 ([.agg #[.int .i64 0, .int .i64 2], .agg #[.int .i64 2, .int .i64 0]]) [] (.int .i64 (-1)) [] := by
  refine ac_in Try.func82 (fun w0 W pin => ?_)
  refine aw_p 3 (
    .a 3 1 <| .nil _ _) ?_
  refine aw_sq 6 7 ?_
  refine aw_p 13 (
    .a 4 3 <| .p (does_c (au_hullBegun1_27)) <| .a 1 3 <| .nil _ _) ?_
  refine aw_p 27 (
    .a 2 3 <| .nil _ _) ?_
  refine aw_tr 54 ?_
  refine aw_p 109 (
    .a 2 3 <| .nil _ _) ?_
  refine aw_rt ?_
  refine then_ret ?_
  exact en_ret [.int .i64 (-1)] (by kernel_rfl)

theorem au_hullBegun1_30  :
    AC Try.prog 79 0 ([.int .i64 0, .int .i64 1]) [] (.int .i64 (-1)) [] := by
  refine ac_in Try.func79 (fun w0 W pin => ?_)
  refine aw_p 3 (
    .a 1 1 <| .nil _ _) ?_
  refine aw_p 7 (
    .a 1 1 <| .p (does_c (au_hullBegun1_17)) <| .a 1 1 <| .nil _ _) ?_
  refine aw_p 15 (
    .a 1 1 <| .p (does_c (au_hullBegun1_20)) <| .a 1 1 <| .nil _ _) ?_
  refine aw_sq 30 31 ?_
  refine aw_p 61 (
    .a 1 1 <| .nil _ _) ?_
  refine aw_fl 123 ?_
  refine aw_sk ?_
  refine then_normal ?_
  refine aw_sq 62 63 ?_
  refine aw_p 125 (
    .a 1 1 <| .nil _ _) ?_
  refine aw_fl 251 ?_
  refine aw_sk ?_
  refine then_normal ?_
  refine aw_sq 126 127 ?_
  refine aw_p 253 (
    .a 3 1 <| .nil _ _) ?_
  refine aw_tr 506 ?_
  refine aw_p 1013 (
    .a 1 1 <| .nil _ _) ?_
  refine aw_rt ?_
  refine then_ret ?_
  exact en_ret [.int .i64 (-1)] (by kernel_rfl)

theorem au_hullBegun1_31  :
    AC Try.prog 82 0 ([.agg #[.int .i64 0, .int .i64 2], .agg #[.int .i64 1, .int .i64 1]]) [] (.int .i64 (-1)) [] := by
  refine ac_in Try.func82 (fun w0 W pin => ?_)
  refine aw_p 3 (
    .a 3 1 <| .nil _ _) ?_
  refine aw_sq 6 7 ?_
  refine aw_p 13 (
    .a 4 3 <| .p (does_c (au_hullBegun1_30)) <| .a 1 3 <| .nil _ _) ?_
  refine aw_p 27 (
    .a 2 3 <| .nil _ _) ?_
  refine aw_tr 54 ?_
  refine aw_p 109 (
    .a 2 3 <| .nil _ _) ?_
  refine aw_rt ?_
  refine then_ret ?_
  exact en_ret [.int .i64 (-1)] (by kernel_rfl)

theorem au_hullBegun1_32  :
    AC Try.prog 79 0 ([.int .i64 0, .int .i64 0]) [] (.int .i64 0) [] := by
  refine ac_in Try.func79 (fun w0 W pin => ?_)
  refine aw_p 3 (
    .a 1 1 <| .nil _ _) ?_
  refine aw_p 7 (
    .a 1 1 <| .p (does_c (au_hullBegun1_17)) <| .a 1 1 <| .nil _ _) ?_
  refine aw_p 15 (
    .a 1 1 <| .p (does_c (au_hullBegun1_17)) <| .a 1 1 <| .nil _ _) ?_
  refine aw_sq 30 31 ?_
  refine aw_p 61 (
    .a 1 1 <| .nil _ _) ?_
  refine aw_fl 123 ?_
  refine aw_sk ?_
  refine then_normal ?_
  refine aw_sq 62 63 ?_
  refine aw_p 125 (
    .a 1 1 <| .nil _ _) ?_
  refine aw_fl 251 ?_
  refine aw_sk ?_
  refine then_normal ?_
  refine aw_sq 126 127 ?_
  refine aw_p 253 (
    .a 3 1 <| .nil _ _) ?_
  refine aw_fl 507 ?_
  refine aw_sk ?_
  refine then_normal ?_
  refine aw_sq 254 255 ?_
  refine aw_p 509 (
    .a 3 1 <| .nil _ _) ?_
  refine aw_fl 1019 ?_
  refine aw_sk ?_
  refine then_normal ?_
  refine aw_p 511 (
    .a 1 1 <| .nil _ _) ?_
  refine aw_rt ?_
  exact en_ret [.int .i64 0] (by kernel_rfl)

theorem au_hullBegun1_33  :
    AC Try.prog 82 0 ([.agg #[.int .i64 0, .int .i64 2], .agg #[.int .i64 0, .int .i64 0]]) [] (.int .i64 1) [] := by
  refine ac_in Try.func82 (fun w0 W pin => ?_)
  refine aw_p 3 (
    .a 3 1 <| .nil _ _) ?_
  refine aw_sq 6 7 ?_
  refine aw_p 13 (
    .a 4 3 <| .p (does_c (au_hullBegun1_32)) <| .a 1 3 <| .nil _ _) ?_
  refine aw_p 27 (
    .a 2 3 <| .nil _ _) ?_
  refine aw_fl 55 ?_
  refine aw_sk ?_
  refine then_normal ?_
  refine aw_p 15 (
    .a 4 3 <| .p (does_c (au_hullBegun1_18)) <| .a 1 3 <| .nil _ _) ?_
  refine aw_rt ?_
  exact en_ret [.int .i64 1] (by kernel_rfl)

theorem au_hullBegun1_34  :
    AC Try.prog 146 1 ([.slice (some ⟨0, 0, none⟩) 5 0, .int .i64 0, .int .i64 5, .func (.func 82) #[] #[]]) [(0, ⟨[.int .i64 0, .int .i64 0, .int .i64 2, .int .i64 0, .int .i64 1, .int .i64 1, .int .i64 2, .int .i64 2, .int .i64 0, .int .i64 2], 29, true, 2⟩)] (.tuple #[]) [(0, ⟨[.int .i64 0, .int .i64 0, .int .i64 0, .int .i64 2, .int .i64 1, .int .i64 1, .int .i64 2, .int .i64 0, .int .i64 2, .int .i64 2], 29, true, 2⟩)] := by
  refine ac_in Try.func146 (fun w0 W pin => ?_)
  refine aw_p 3 (
    .a 3 1 <| .nil _ _) ?_
  refine aw_bl 0 7 ?_
  refine aw_lp 15 ?_
  refine al_round ?_
  refine aw_sq 30 31 ?_
  refine aw_p 61 (
    .a 3 1 <| .nil _ _) ?_
  refine aw_tr 122 ?_
  refine aw_sk ?_
  refine then_normal ?_
  refine aw_sq 62 63 ?_
  refine aw_bl 1 125 ?_
  refine aw_p 251 (
    .a 2 1 <| .nil _ _) ?_
  refine aw_bl 2 503 ?_
  refine aw_lp 1007 ?_
  refine al_round ?_
  refine aw_sq 2014 2015 ?_
  refine aw_d 4029 (
    .a 14 1 <| .p (does_c (au_hullBegun1_19)) <| .a 2 1 <| .nil _ _) ?_
  refine aw_w [(0, .slice (some ⟨0, 0, none⟩) 5 0), (1, .int .i64 0), (2, .int .i64 5), (3, .func (.func 82) #[] #[]), (8, .int .i64 1), (9, .int .i64 1), (14, .bool true), (34, .bool false)] [(0, ⟨[.int .i64 0, .int .i64 0, .int .i64 2, .int .i64 0, .int .i64 1, .int .i64 1, .int .i64 2, .int .i64 2, .int .i64 0, .int .i64 2], 29, true, 2⟩)] ?_
  refine aw_fl 8059 ?_
  refine aw_ex 2 ?_
  refine then_exit ?_
  refine then_exit ?_
  refine block_exit ?_
  refine block_normal ?_
  refine then_normal ?_
  refine aw_p1 (
    .a 3 1 <| .nil _ _) ?_
  refine then_normal ?_
  refine al_round ?_
  refine aw_sq 30 31 ?_
  refine aw_p 61 (
    .a 3 1 <| .nil _ _) ?_
  refine aw_tr 122 ?_
  refine aw_sk ?_
  refine then_normal ?_
  refine aw_sq 62 63 ?_
  refine aw_bl 1 125 ?_
  refine aw_p 251 (
    .a 2 1 <| .nil _ _) ?_
  refine aw_bl 2 503 ?_
  refine aw_lp 1007 ?_
  refine al_round ?_
  refine aw_sq 2014 2015 ?_
  refine aw_d 4029 (
    .a 14 1 <| .p (does_c (au_hullBegun1_22)) <| .a 2 1 <| .nil _ _) ?_
  refine aw_w [(0, .slice (some ⟨0, 0, none⟩) 5 0), (1, .int .i64 0), (2, .int .i64 5), (3, .func (.func 82) #[] #[]), (8, .int .i64 2), (9, .int .i64 2), (14, .bool true), (34, .bool true)] [(0, ⟨[.int .i64 0, .int .i64 0, .int .i64 2, .int .i64 0, .int .i64 1, .int .i64 1, .int .i64 2, .int .i64 2, .int .i64 0, .int .i64 2], 29, true, 2⟩)] ?_
  refine aw_tr 8058 ?_
  refine aw_sk ?_
  refine then_normal ?_
  refine aw_sq 4030 4031 ?_
  refine aw_bl 3 8061 ?_
  refine aw_d1 (
    .a 18 1 <| .nil _ _) ?_
  refine block_normal ?_
  refine then_normal ?_
  refine aw_p1 (
    .a 3 1 <| .nil _ _) ?_
  refine then_normal ?_
  refine al_round ?_
  refine aw_sq 2014 2015 ?_
  refine aw_d 4029 (
    .a 14 1 <| .p (does_c (au_hullBegun1_24)) <| .a 2 1 <| .nil _ _) ?_
  refine aw_w [(0, .slice (some ⟨0, 0, none⟩) 5 0), (1, .int .i64 0), (2, .int .i64 5), (3, .func (.func 82) #[] #[]), (8, .int .i64 2), (9, .int .i64 1), (14, .bool true), (34, .bool false)] [(0, ⟨[.int .i64 0, .int .i64 0, .int .i64 1, .int .i64 1, .int .i64 2, .int .i64 0, .int .i64 2, .int .i64 2, .int .i64 0, .int .i64 2], 29, true, 2⟩)] ?_
  refine aw_fl 8059 ?_
  refine aw_ex 2 ?_
  refine then_exit ?_
  refine then_exit ?_
  refine block_exit ?_
  refine block_normal ?_
  refine then_normal ?_
  refine aw_p1 (
    .a 3 1 <| .nil _ _) ?_
  refine then_normal ?_
  refine al_round ?_
  refine aw_sq 30 31 ?_
  refine aw_p 61 (
    .a 3 1 <| .nil _ _) ?_
  refine aw_tr 122 ?_
  refine aw_sk ?_
  refine then_normal ?_
  refine aw_sq 62 63 ?_
  refine aw_bl 1 125 ?_
  refine aw_p 251 (
    .a 2 1 <| .nil _ _) ?_
  refine aw_bl 2 503 ?_
  refine aw_lp 1007 ?_
  refine al_round ?_
  refine aw_sq 2014 2015 ?_
  refine aw_d 4029 (
    .a 14 1 <| .p (does_c (au_hullBegun1_26)) <| .a 2 1 <| .nil _ _) ?_
  refine aw_w [(0, .slice (some ⟨0, 0, none⟩) 5 0), (1, .int .i64 0), (2, .int .i64 5), (3, .func (.func 82) #[] #[]), (8, .int .i64 3), (9, .int .i64 3), (14, .bool true), (34, .bool false)] [(0, ⟨[.int .i64 0, .int .i64 0, .int .i64 1, .int .i64 1, .int .i64 2, .int .i64 0, .int .i64 2, .int .i64 2, .int .i64 0, .int .i64 2], 29, true, 2⟩)] ?_
  refine aw_fl 8059 ?_
  refine aw_ex 2 ?_
  refine then_exit ?_
  refine then_exit ?_
  refine block_exit ?_
  refine block_normal ?_
  refine then_normal ?_
  refine aw_p1 (
    .a 3 1 <| .nil _ _) ?_
  refine then_normal ?_
  refine al_round ?_
  refine aw_sq 30 31 ?_
  refine aw_p 61 (
    .a 3 1 <| .nil _ _) ?_
  refine aw_tr 122 ?_
  refine aw_sk ?_
  refine then_normal ?_
  refine aw_sq 62 63 ?_
  refine aw_bl 1 125 ?_
  refine aw_p 251 (
    .a 2 1 <| .nil _ _) ?_
  refine aw_bl 2 503 ?_
  refine aw_lp 1007 ?_
  refine al_round ?_
  refine aw_sq 2014 2015 ?_
  refine aw_d 4029 (
    .a 14 1 <| .p (does_c (au_hullBegun1_28)) <| .a 2 1 <| .nil _ _) ?_
  refine aw_w [(0, .slice (some ⟨0, 0, none⟩) 5 0), (1, .int .i64 0), (2, .int .i64 5), (3, .func (.func 82) #[] #[]), (8, .int .i64 4), (9, .int .i64 4), (14, .bool true), (34, .bool true)] [(0, ⟨[.int .i64 0, .int .i64 0, .int .i64 1, .int .i64 1, .int .i64 2, .int .i64 0, .int .i64 2, .int .i64 2, .int .i64 0, .int .i64 2], 29, true, 2⟩)] ?_
  refine aw_tr 8058 ?_
  refine aw_sk ?_
  refine then_normal ?_
  refine aw_sq 4030 4031 ?_
  refine aw_bl 3 8061 ?_
  refine aw_d1 (
    .a 18 1 <| .nil _ _) ?_
  refine block_normal ?_
  refine then_normal ?_
  refine aw_p1 (
    .a 3 1 <| .nil _ _) ?_
  refine then_normal ?_
  refine al_round ?_
  refine aw_sq 2014 2015 ?_
  refine aw_d 4029 (
    .a 14 1 <| .p (does_c (au_hullBegun1_29)) <| .a 2 1 <| .nil _ _) ?_
  refine aw_w [(0, .slice (some ⟨0, 0, none⟩) 5 0), (1, .int .i64 0), (2, .int .i64 5), (3, .func (.func 82) #[] #[]), (8, .int .i64 4), (9, .int .i64 3), (14, .bool true), (34, .bool true)] [(0, ⟨[.int .i64 0, .int .i64 0, .int .i64 1, .int .i64 1, .int .i64 2, .int .i64 0, .int .i64 0, .int .i64 2, .int .i64 2, .int .i64 2], 29, true, 2⟩)] ?_
  refine aw_tr 8058 ?_
  refine aw_sk ?_
  refine then_normal ?_
  refine aw_sq 4030 4031 ?_
  refine aw_bl 3 8061 ?_
  refine aw_d1 (
    .a 18 1 <| .nil _ _) ?_
  refine block_normal ?_
  refine then_normal ?_
  refine aw_p1 (
    .a 3 1 <| .nil _ _) ?_
  refine then_normal ?_
  refine al_round ?_
  refine aw_sq 2014 2015 ?_
  refine aw_d 4029 (
    .a 14 1 <| .p (does_c (au_hullBegun1_31)) <| .a 2 1 <| .nil _ _) ?_
  refine aw_w [(0, .slice (some ⟨0, 0, none⟩) 5 0), (1, .int .i64 0), (2, .int .i64 5), (3, .func (.func 82) #[] #[]), (8, .int .i64 4), (9, .int .i64 2), (14, .bool true), (34, .bool true)] [(0, ⟨[.int .i64 0, .int .i64 0, .int .i64 1, .int .i64 1, .int .i64 0, .int .i64 2, .int .i64 2, .int .i64 0, .int .i64 2, .int .i64 2], 29, true, 2⟩)] ?_
  refine aw_tr 8058 ?_
  refine aw_sk ?_
  refine then_normal ?_
  refine aw_sq 4030 4031 ?_
  refine aw_bl 3 8061 ?_
  refine aw_d1 (
    .a 18 1 <| .nil _ _) ?_
  refine block_normal ?_
  refine then_normal ?_
  refine aw_p1 (
    .a 3 1 <| .nil _ _) ?_
  refine then_normal ?_
  refine al_round ?_
  refine aw_sq 2014 2015 ?_
  refine aw_d 4029 (
    .a 14 1 <| .p (does_c (au_hullBegun1_33)) <| .a 2 1 <| .nil _ _) ?_
  refine aw_w [(0, .slice (some ⟨0, 0, none⟩) 5 0), (1, .int .i64 0), (2, .int .i64 5), (3, .func (.func 82) #[] #[]), (8, .int .i64 4), (9, .int .i64 1), (14, .bool true), (34, .bool false)] [(0, ⟨[.int .i64 0, .int .i64 0, .int .i64 0, .int .i64 2, .int .i64 1, .int .i64 1, .int .i64 2, .int .i64 0, .int .i64 2, .int .i64 2], 29, true, 2⟩)] ?_
  refine aw_fl 8059 ?_
  refine aw_ex 2 ?_
  refine then_exit ?_
  refine then_exit ?_
  refine block_exit ?_
  refine block_normal ?_
  refine then_normal ?_
  refine aw_p1 (
    .a 3 1 <| .nil _ _) ?_
  refine then_normal ?_
  refine al_round ?_
  refine aw_sq 30 31 ?_
  refine aw_p 61 (
    .a 3 1 <| .nil _ _) ?_
  refine aw_fl 123 ?_
  refine aw_ex 0 ?_
  refine then_exit ?_
  refine then_exit ?_
  refine block_exit ?_
  exact en_normal [] (by kernel_rfl)

theorem au_hullBegun1_35  :
    AC Try.prog 118 1 ([.slice (some ⟨0, 0, none⟩) 5 0, .int .i64 0, .int .i64 5, .int .i64 3, .func (.func 82) #[] #[]]) [(0, ⟨[.int .i64 0, .int .i64 0, .int .i64 2, .int .i64 0, .int .i64 1, .int .i64 1, .int .i64 2, .int .i64 2, .int .i64 0, .int .i64 2], 29, true, 2⟩)] (.tuple #[]) [(0, ⟨[.int .i64 0, .int .i64 0, .int .i64 0, .int .i64 2, .int .i64 1, .int .i64 1, .int .i64 2, .int .i64 0, .int .i64 2, .int .i64 2], 29, true, 2⟩)] := by
  refine ac_in Try.func118 (fun w0 W pin => ?_)
  refine aw_p 3 (
    .a 1 1 <| .nil _ _) ?_
  refine aw_p 7 (
    .a 1 1 <| .nil _ _) ?_
  refine aw_bl 0 15 ?_
  refine aw_lp 31 ?_
  refine al_round ?_
  refine aw_bl 1 63 ?_
  refine aw_p 127 (
    .a 4 1 <| .nil _ _) ?_
  refine aw_sq 254 255 ?_
  refine aw_p 509 (
    .a 2 1 <| .nil _ _) ?_
  refine aw_tr 1018 ?_
  refine aw_p 2037 (
    .a 4 1 <| .p (does_k [0] (au_hullBegun1_34)) <| .nil _ _) ?_
  refine aw_rt ?_
  refine then_ret ?_
  refine block_ret ?_
  refine then_ret ?_
  refine block_ret ?_
  exact en_ret [] (by kernel_rfl)

theorem au_hullBegun1_36  :
    AC Try.prog 81 1 ([.slice (some ⟨0, 0, none⟩) 5 0, .func (.func 82) #[] #[]]) [(0, ⟨[.int .i64 0, .int .i64 0, .int .i64 2, .int .i64 0, .int .i64 1, .int .i64 1, .int .i64 2, .int .i64 2, .int .i64 0, .int .i64 2], 29, true, 2⟩)] (.tuple #[]) [(0, ⟨[.int .i64 0, .int .i64 0, .int .i64 0, .int .i64 2, .int .i64 1, .int .i64 1, .int .i64 2, .int .i64 0, .int .i64 2, .int .i64 2], 29, true, 2⟩)] := by
  refine ac_in Try.func81 (fun w0 W pin => ?_)
  refine aw_p 3 (
    .a 3 1 <| .nil _ _) ?_
  refine aw_p1 (
    .a 4 1 <| .p (does_c (au_hullBegun1_15)) <| .a 1 1 <| .p (does_k [0] (au_hullBegun1_35)) <| .nil _ _) ?_
  exact en_normal [] (by kernel_rfl)

theorem au_hullBegun1_37  :
    AC Try.prog 83 1 ([.slice (some ⟨0, 0, none⟩) 5 0]) [(0, ⟨[.int .i64 0, .int .i64 0, .int .i64 0, .int .i64 2, .int .i64 1, .int .i64 1, .int .i64 2, .int .i64 0, .int .i64 2, .int .i64 2], 29, true, 2⟩)] (.slice (some ⟨0, 0, none⟩) 5 0) [(0, ⟨[.int .i64 0, .int .i64 0, .int .i64 0, .int .i64 2, .int .i64 1, .int .i64 1, .int .i64 2, .int .i64 0, .int .i64 2, .int .i64 2], 29, true, 2⟩)] := by
  refine ac_in Try.func83 (fun w0 W pin => ?_)
  refine aw_p 3 (
    .a 1 1 <| .nil _ _) ?_
  refine aw_sq 6 7 ?_
  refine aw_p 13 (
    .a 3 1 <| .nil _ _) ?_
  refine aw_fl 27 ?_
  refine aw_sk ?_
  refine then_normal ?_
  refine aw_sq 14 15 ?_
  refine aw_p 29 (
    .a 1 1 <| .nil _ _) ?_
  refine aw_bl 0 59 ?_
  refine aw_lp 119 ?_
  refine al_round ?_
  refine aw_sq 238 239 ?_
  refine aw_p 477 (
    .a 4 1 <| .nil _ _) ?_
  refine aw_tr 954 ?_
  refine aw_sk ?_
  refine then_normal ?_
  refine aw_sq 478 479 ?_
  refine aw_bl 1 957 ?_
  refine aw_d 1915 (
    .a 9 1 <| .p (does_e false ((show ((0 == 0) && ((2 == 0) && true)) = false from by decide))) <| .nil _ _) ?_
  refine aw_fl 3831 ?_
  refine aw_sk ?_
  refine block_normal ?_
  refine then_normal ?_
  refine aw_p1 (
    .a 3 1 <| .nil _ _) ?_
  refine then_normal ?_
  refine al_round ?_
  refine aw_sq 238 239 ?_
  refine aw_p 477 (
    .a 4 1 <| .nil _ _) ?_
  refine aw_w [(0, .slice (some ⟨0, 0, none⟩) 5 0), (2, .slice none 0 0), (3, .int .i64 2), (13, .bool true), (25, .bool false)] [(0, ⟨[.int .i64 0, .int .i64 0, .int .i64 0, .int .i64 2, .int .i64 1, .int .i64 1, .int .i64 2, .int .i64 0, .int .i64 2, .int .i64 2], 29, true, 2⟩)] ?_
  refine aw_tr 954 ?_
  refine aw_sk ?_
  refine then_normal ?_
  refine aw_sq 478 479 ?_
  refine aw_bl 1 957 ?_
  refine aw_d 1915 (
    .a 9 1 <| .p (does_e false ((show ((1 == 0) && ((1 == 2) && true)) = false from by decide))) <| .nil _ _) ?_
  refine aw_fl 3831 ?_
  refine aw_sk ?_
  refine block_normal ?_
  refine then_normal ?_
  refine aw_p1 (
    .a 3 1 <| .nil _ _) ?_
  refine then_normal ?_
  refine al_round ?_
  refine aw_sq 238 239 ?_
  refine aw_p 477 (
    .a 4 1 <| .nil _ _) ?_
  refine aw_tr 954 ?_
  refine aw_sk ?_
  refine then_normal ?_
  refine aw_sq 478 479 ?_
  refine aw_bl 1 957 ?_
  refine aw_d 1915 (
    .a 9 1 <| .p (does_e false ((show ((2 == 1) && ((0 == 1) && true)) = false from by decide))) <| .nil _ _) ?_
  refine aw_w [(0, .slice (some ⟨0, 0, none⟩) 5 0), (2, .slice none 0 0), (3, .int .i64 3), (13, .bool true), (25, .bool false)] [(0, ⟨[.int .i64 0, .int .i64 0, .int .i64 0, .int .i64 2, .int .i64 1, .int .i64 1, .int .i64 2, .int .i64 0, .int .i64 2, .int .i64 2], 29, true, 2⟩)] ?_
  refine aw_fl 3831 ?_
  refine aw_sk ?_
  refine block_normal ?_
  refine then_normal ?_
  refine aw_p1 (
    .a 3 1 <| .nil _ _) ?_
  refine then_normal ?_
  refine al_round ?_
  refine aw_sq 238 239 ?_
  refine aw_p 477 (
    .a 4 1 <| .nil _ _) ?_
  refine aw_tr 954 ?_
  refine aw_sk ?_
  refine then_normal ?_
  refine aw_sq 478 479 ?_
  refine aw_bl 1 957 ?_
  refine aw_d 1915 (
    .a 9 1 <| .p (does_e false ((show ((2 == 2) && ((2 == 0) && true)) = false from by decide))) <| .nil _ _) ?_
  refine aw_fl 3831 ?_
  refine aw_sk ?_
  refine block_normal ?_
  refine then_normal ?_
  refine aw_p1 (
    .a 3 1 <| .nil _ _) ?_
  refine then_normal ?_
  refine al_round ?_
  refine aw_sq 238 239 ?_
  refine aw_p 477 (
    .a 4 1 <| .nil _ _) ?_
  refine aw_fl 955 ?_
  refine aw_ex 0 ?_
  refine then_exit ?_
  refine then_exit ?_
  refine block_exit ?_
  refine then_normal ?_
  refine aw_p 31 (
    .a 2 1 <| .nil _ _) ?_
  refine aw_w [(2, .slice (some ⟨0, 0, none⟩) 5 0)] [(0, ⟨[.int .i64 0, .int .i64 0, .int .i64 0, .int .i64 2, .int .i64 1, .int .i64 1, .int .i64 2, .int .i64 0, .int .i64 2, .int .i64 2], 29, true, 2⟩)] ?_
  refine aw_rt ?_
  exact en_ret [.slice (some ⟨0, 0, none⟩) 5 0] (by kernel_rfl)

theorem au_hullBegun1_38  :
    AC Try.prog 117 0 ([.agg #[.int .i64 0, .int .i64 0], .agg #[.int .i64 0, .int .i64 2]]) [] (.agg #[.int .i64 0, .int .i64 2]) [] := by
  refine ac_in Try.func117 (fun w0 W pin => ?_)
  refine aw_p 3 (
    .a 3 1 <| .nil _ _) ?_
  refine aw_d 7 (
    .a 1 4 <| .p (does_c (au_hullBegun1_7)) <| .a 1 4 <| .p (does_c (au_hullBegun1_13)) <| .a 2 4 <| .nil _ _) ?_
  refine aw_p 15 (
    .a 12 4 <| .nil _ _) ?_
  refine aw_rt ?_
  exact en_ret [.agg #[.int .i64 0, .int .i64 2]] (by kernel_rfl)

theorem au_hullBegun1_39  :
    AC Try.prog 117 0 ([.agg #[.int .i64 0, .int .i64 0], .agg #[.int .i64 1, .int .i64 1]]) [] (.agg #[.int .i64 1, .int .i64 1]) [] := by
  refine ac_in Try.func117 (fun w0 W pin => ?_)
  refine aw_p 3 (
    .a 3 1 <| .nil _ _) ?_
  refine aw_d 7 (
    .a 1 4 <| .p (does_c (au_hullBegun1_7)) <| .a 1 4 <| .p (does_c (au_hullBegun1_11)) <| .a 2 4 <| .nil _ _) ?_
  refine aw_p 15 (
    .a 12 4 <| .nil _ _) ?_
  refine aw_rt ?_
  exact en_ret [.agg #[.int .i64 1, .int .i64 1]] (by kernel_rfl)

theorem au_hullBegun1_40  :
    AC Try.prog 80 0 ([.agg #[.int .i64 0, .int .i64 0], .agg #[.int .i64 0, .int .i64 2], .agg #[.int .i64 1, .int .i64 1]]) [] (.int .i64 (-2)) [] := by
  refine ac_in Try.func80 (fun w0 W pin => ?_)
  refine aw_p 3 (
    .a 4 1 <| .nil _ _) ?_
  refine aw_d 7 (
    .a 2 4 <| .p (does_c (au_hullBegun1_38)) <| .a 2 4 <| .p (does_c (au_hullBegun1_39)) <| .a 4 4 <| .nil _ _) ?_
  refine aw_p 15 (
    .a 12 6 <| .nil _ _) ?_
  refine aw_w [(6, .int .i64 (-2))] [] ?_
  refine aw_rt ?_
  exact en_ret [.int .i64 (-2)] (by kernel_rfl)

theorem au_hullBegun1_41  :
    AC Try.prog 116 0 ([.int .i64 (-2)]) [] (.bool false) [] := by
  refine ac_in Try.func116 (fun w0 W pin => ?_)
  refine aw_p 3 (
    .a 1 1 <| .nil _ _) ?_
  refine aw_p 7 (
    .a 4 1 <| .nil _ _) ?_
  refine aw_rt ?_
  exact en_ret [.bool false] (by kernel_rfl)

theorem au_hullBegun1_42  :
    AC Try.prog 79 0 ([.int .i64 (-2), .int .i64 0]) [] (.int .i64 (-1)) [] := by
  refine ac_in Try.func79 (fun w0 W pin => ?_)
  refine aw_p 3 (
    .a 1 1 <| .nil _ _) ?_
  refine aw_p 7 (
    .a 1 1 <| .p (does_c (au_hullBegun1_41)) <| .a 1 1 <| .nil _ _) ?_
  refine aw_p 15 (
    .a 1 1 <| .p (does_c (au_hullBegun1_17)) <| .a 1 1 <| .nil _ _) ?_
  refine aw_sq 30 31 ?_
  refine aw_p 61 (
    .a 1 1 <| .nil _ _) ?_
  refine aw_fl 123 ?_
  refine aw_sk ?_
  refine then_normal ?_
  refine aw_sq 62 63 ?_
  refine aw_p 125 (
    .a 1 1 <| .nil _ _) ?_
  refine aw_fl 251 ?_
  refine aw_sk ?_
  refine then_normal ?_
  refine aw_sq 126 127 ?_
  refine aw_p 253 (
    .a 3 1 <| .nil _ _) ?_
  refine aw_tr 506 ?_
  refine aw_p 1013 (
    .a 1 1 <| .nil _ _) ?_
  refine aw_rt ?_
  refine then_ret ?_
  exact en_ret [.int .i64 (-1)] (by kernel_rfl)

theorem au_hullBegun1_43  :
    AC Try.prog 35 0 ([.agg #[.int .i64 0, .int .i64 0], .agg #[.int .i64 0, .int .i64 2], .agg #[.int .i64 1, .int .i64 1]]) [] (.int .i64 (-1)) [] := by
  refine ac_in Try.func35 (fun w0 W pin => ?_)
  refine aw_p 3 (
    .a 4 1 <| .nil _ _) ?_
  refine aw_p 7 (
    .a 3 4 <| .p (does_c (au_hullBegun1_40)) <| .p (does_c (au_hullBegun1_42)) <| .a 1 4 <| .nil _ _) ?_
  refine aw_rt ?_
  exact en_ret [.int .i64 (-1)] (by kernel_rfl)

theorem au_hullBegun1_44  :
    AC Try.prog 117 0 ([.agg #[.int .i64 0, .int .i64 0], .agg #[.int .i64 2, .int .i64 0]]) [] (.agg #[.int .i64 2, .int .i64 0]) [] := by
  refine ac_in Try.func117 (fun w0 W pin => ?_)
  refine aw_p 3 (
    .a 3 1 <| .nil _ _) ?_
  refine aw_d 7 (
    .a 1 4 <| .p (does_c (au_hullBegun1_7)) <| .a 1 4 <| .p (does_c (au_hullBegun1_9)) <| .a 2 4 <| .nil _ _) ?_
  refine aw_p 15 (
    .a 12 4 <| .nil _ _) ?_
  refine aw_rt ?_
  exact en_ret [.agg #[.int .i64 2, .int .i64 0]] (by kernel_rfl)

theorem au_hullBegun1_45  :
    AC Try.prog 80 0 ([.agg #[.int .i64 0, .int .i64 0], .agg #[.int .i64 1, .int .i64 1], .agg #[.int .i64 2, .int .i64 0]]) [] (.int .i64 (-2)) [] := by
  refine ac_in Try.func80 (fun w0 W pin => ?_)
  refine aw_p 3 (
    .a 4 1 <| .nil _ _) ?_
  refine aw_d 7 (
    .a 2 4 <| .p (does_c (au_hullBegun1_39)) <| .a 2 4 <| .p (does_c (au_hullBegun1_44)) <| .a 4 4 <| .nil _ _) ?_
  refine aw_p 15 (
    .a 12 6 <| .nil _ _) ?_
  refine aw_w [(6, .int .i64 (-2))] [] ?_
  refine aw_rt ?_
  exact en_ret [.int .i64 (-2)] (by kernel_rfl)

theorem au_hullBegun1_46  :
    AC Try.prog 35 0 ([.agg #[.int .i64 0, .int .i64 0], .agg #[.int .i64 1, .int .i64 1], .agg #[.int .i64 2, .int .i64 0]]) [] (.int .i64 (-1)) [] := by
  refine ac_in Try.func35 (fun w0 W pin => ?_)
  refine aw_p 3 (
    .a 4 1 <| .nil _ _) ?_
  refine aw_p 7 (
    .a 3 4 <| .p (does_c (au_hullBegun1_45)) <| .p (does_c (au_hullBegun1_42)) <| .a 1 4 <| .nil _ _) ?_
  refine aw_rt ?_
  exact en_ret [.int .i64 (-1)] (by kernel_rfl)

theorem au_hullBegun1_47  :
    AC Try.prog 117 0 ([.agg #[.int .i64 0, .int .i64 0], .agg #[.int .i64 2, .int .i64 2]]) [] (.agg #[.int .i64 2, .int .i64 2]) [] := by
  refine ac_in Try.func117 (fun w0 W pin => ?_)
  refine aw_p 3 (
    .a 3 1 <| .nil _ _) ?_
  refine aw_d 7 (
    .a 1 4 <| .p (does_c (au_hullBegun1_7)) <| .a 1 4 <| .p (does_c (au_hullBegun1_12)) <| .a 2 4 <| .nil _ _) ?_
  refine aw_p 15 (
    .a 12 4 <| .nil _ _) ?_
  refine aw_rt ?_
  exact en_ret [.agg #[.int .i64 2, .int .i64 2]] (by kernel_rfl)

theorem au_hullBegun1_48  :
    AC Try.prog 80 0 ([.agg #[.int .i64 0, .int .i64 0], .agg #[.int .i64 2, .int .i64 0], .agg #[.int .i64 2, .int .i64 2]]) [] (.int .i64 4) [] := by
  refine ac_in Try.func80 (fun w0 W pin => ?_)
  refine aw_p 3 (
    .a 4 1 <| .nil _ _) ?_
  refine aw_d 7 (
    .a 2 4 <| .p (does_c (au_hullBegun1_44)) <| .a 2 4 <| .p (does_c (au_hullBegun1_47)) <| .a 4 4 <| .nil _ _) ?_
  refine aw_p 15 (
    .a 12 6 <| .nil _ _) ?_
  refine aw_w [(6, .int .i64 4)] [] ?_
  refine aw_rt ?_
  exact en_ret [.int .i64 4] (by kernel_rfl)

theorem au_hullBegun1_49  :
    AC Try.prog 116 0 ([.int .i64 4]) [] (.bool false) [] := by
  refine ac_in Try.func116 (fun w0 W pin => ?_)
  refine aw_p 3 (
    .a 1 1 <| .nil _ _) ?_
  refine aw_p 7 (
    .a 4 1 <| .nil _ _) ?_
  refine aw_rt ?_
  exact en_ret [.bool false] (by kernel_rfl)

theorem au_hullBegun1_50  :
    AC Try.prog 79 0 ([.int .i64 4, .int .i64 0]) [] (.int .i64 1) [] := by
  refine ac_in Try.func79 (fun w0 W pin => ?_)
  refine aw_p 3 (
    .a 1 1 <| .nil _ _) ?_
  refine aw_p 7 (
    .a 1 1 <| .p (does_c (au_hullBegun1_49)) <| .a 1 1 <| .nil _ _) ?_
  refine aw_p 15 (
    .a 1 1 <| .p (does_c (au_hullBegun1_17)) <| .a 1 1 <| .nil _ _) ?_
  refine aw_sq 30 31 ?_
  refine aw_p 61 (
    .a 1 1 <| .nil _ _) ?_
  refine aw_fl 123 ?_
  refine aw_sk ?_
  refine then_normal ?_
  refine aw_sq 62 63 ?_
  refine aw_p 125 (
    .a 1 1 <| .nil _ _) ?_
  refine aw_fl 251 ?_
  refine aw_sk ?_
  refine then_normal ?_
  refine aw_sq 126 127 ?_
  refine aw_p 253 (
    .a 3 1 <| .nil _ _) ?_
  refine aw_fl 507 ?_
  refine aw_sk ?_
  refine then_normal ?_
  refine aw_sq 254 255 ?_
  refine aw_p 509 (
    .a 3 1 <| .nil _ _) ?_
  refine aw_tr 1018 ?_
  refine aw_p 2037 (
    .a 1 1 <| .nil _ _) ?_
  refine aw_rt ?_
  refine then_ret ?_
  exact en_ret [.int .i64 1] (by kernel_rfl)

theorem au_hullBegun1_51  :
    AC Try.prog 35 0 ([.agg #[.int .i64 0, .int .i64 0], .agg #[.int .i64 2, .int .i64 0], .agg #[.int .i64 2, .int .i64 2]]) [] (.int .i64 1) [] := by
  refine ac_in Try.func35 (fun w0 W pin => ?_)
  refine aw_p 3 (
    .a 4 1 <| .nil _ _) ?_
  refine aw_p 7 (
    .a 3 4 <| .p (does_c (au_hullBegun1_48)) <| .p (does_c (au_hullBegun1_50)) <| .a 1 4 <| .nil _ _) ?_
  refine aw_rt ?_
  exact en_ret [.int .i64 1] (by kernel_rfl)

theorem au_hullBegun1_52  :
    AC Try.prog 84 1 ([.slice none 0 0, .slice (some ⟨0, 0, none⟩) 5 0]) [(0, ⟨[.int .i64 0, .int .i64 0, .int .i64 0, .int .i64 2, .int .i64 1, .int .i64 1, .int .i64 2, .int .i64 0, .int .i64 2, .int .i64 2], 29, true, 2⟩)] (.slice (some ⟨1, 0, none⟩) 2 0) [(0, ⟨[.int .i64 0, .int .i64 0, .int .i64 0, .int .i64 2, .int .i64 1, .int .i64 1, .int .i64 2, .int .i64 0, .int .i64 2, .int .i64 2], 29, true, 2⟩), (1, ⟨[.int .i64 0, .int .i64 0, .int .i64 2, .int .i64 0, .int .i64 2, .int .i64 2], 29, true, 2⟩)] := by
  refine ac_in Try.func84 (fun w0 W pin => ?_)
  refine aw_p 3 (
    .a 1 1 <| .nil _ _) ?_
  refine aw_p 7 (
    .a 3 1 <| .nil _ _) ?_
  refine aw_sq 14 15 ?_
  refine aw_p 29 (
    .a 3 1 <| .nil _ _) ?_
  refine aw_bl 0 59 ?_
  refine aw_lp 119 ?_
  refine al_round ?_
  refine aw_p 239 (
    .a 1 1 <| .nil _ _) ?_
  refine aw_sq 478 479 ?_
  refine aw_tr 956 ?_
  refine aw_sk ?_
  refine then_normal ?_
  refine aw_sq 958 959 ?_
  refine aw_bl 1 1917 ?_
  refine aw_p 3835 (
    .a 4 1 <| .nil _ _) ?_
  refine aw_sq 7670 7671 ?_
  refine aw_bl 2 15341 ?_
  refine aw_lp 30683 ?_
  refine al_round ?_
  refine aw_sq 61366 61367 ?_
  refine aw_d 122733 (
    .a 22 2 <| .nil _ _) ?_
  refine aw_w [(0, .slice none 0 0), (4, .slice none 0 0), (5, .int .i64 0), (7, .pointer (some ⟨1, 0, none⟩)), (10, .slice (some ⟨0, 0, none⟩) 5 0), (11, .int .i64 5), (12, .int .i64 0), (13, .bool true), (37, .bool false)] [(0, ⟨[.int .i64 0, .int .i64 0, .int .i64 0, .int .i64 2, .int .i64 1, .int .i64 1, .int .i64 2, .int .i64 0, .int .i64 2, .int .i64 2], 29, true, 2⟩), (1, ⟨[.int .i64 0, .int .i64 0], 29, true, 2⟩)] ?_
  refine aw_fl 245467 ?_
  refine aw_ex 2 ?_
  refine then_exit ?_
  refine then_exit ?_
  refine block_exit ?_
  refine then_normal ?_
  refine aw_p1 (
    .a 3 2 <| .p (does_ap 3) <| .a 1 4 <| .nil _ _) ?_
  refine block_normal ?_
  refine then_normal ?_
  refine aw_p1 (
    .a 2 4 <| .nil _ _) ?_
  refine then_normal ?_
  refine al_round ?_
  refine aw_p 239 (
    .a 1 4 <| .nil _ _) ?_
  refine aw_sq 478 479 ?_
  refine aw_tr 956 ?_
  refine aw_sk ?_
  refine then_normal ?_
  refine aw_sq 958 959 ?_
  refine aw_bl 1 1917 ?_
  refine aw_p 3835 (
    .a 4 4 <| .nil _ _) ?_
  refine aw_sq 7670 7671 ?_
  refine aw_bl 2 15341 ?_
  refine aw_lp 30683 ?_
  refine al_round ?_
  refine aw_sq 61366 61367 ?_
  refine aw_d 122733 (
    .a 22 5 <| .nil _ _) ?_
  refine aw_w [(0, .slice (some ⟨3, 0, none⟩) 1 0), (4, .slice none 0 0), (5, .int .i64 0), (7, .pointer (some ⟨4, 0, none⟩)), (10, .slice (some ⟨0, 0, none⟩) 5 0), (11, .int .i64 5), (12, .int .i64 1), (13, .bool true), (37, .bool false)] [(0, ⟨[.int .i64 0, .int .i64 0, .int .i64 0, .int .i64 2, .int .i64 1, .int .i64 1, .int .i64 2, .int .i64 0, .int .i64 2, .int .i64 2], 29, true, 2⟩), (3, ⟨[.int .i64 0, .int .i64 0], 29, true, 2⟩), (4, ⟨[.int .i64 0, .int .i64 2], 29, true, 2⟩)] ?_
  refine aw_fl 245467 ?_
  refine aw_ex 2 ?_
  refine then_exit ?_
  refine then_exit ?_
  refine block_exit ?_
  refine then_normal ?_
  refine aw_p1 (
    .a 3 5 <| .p (does_ap 6) <| .a 1 7 <| .nil _ _) ?_
  refine block_normal ?_
  refine then_normal ?_
  refine aw_p1 (
    .a 2 7 <| .nil _ _) ?_
  refine then_normal ?_
  refine al_round ?_
  refine aw_p 239 (
    .a 1 7 <| .nil _ _) ?_
  refine aw_sq 478 479 ?_
  refine aw_tr 956 ?_
  refine aw_sk ?_
  refine then_normal ?_
  refine aw_sq 958 959 ?_
  refine aw_bl 1 1917 ?_
  refine aw_p 3835 (
    .a 4 7 <| .nil _ _) ?_
  refine aw_sq 7670 7671 ?_
  refine aw_bl 2 15341 ?_
  refine aw_lp 30683 ?_
  refine al_round ?_
  refine aw_sq 61366 61367 ?_
  refine aw_d 122733 (
    .a 19 8 <| .p (does_c (au_hullBegun1_43)) <| .a 2 8 <| .nil _ _) ?_
  refine aw_w [(0, .slice (some ⟨6, 0, none⟩) 2 0), (4, .slice none 0 0), (5, .int .i64 0), (7, .pointer (some ⟨7, 0, none⟩)), (10, .slice (some ⟨0, 0, none⟩) 5 0), (11, .int .i64 5), (12, .int .i64 2), (13, .bool true), (37, .bool true)] [(0, ⟨[.int .i64 0, .int .i64 0, .int .i64 0, .int .i64 2, .int .i64 1, .int .i64 1, .int .i64 2, .int .i64 0, .int .i64 2, .int .i64 2], 29, true, 2⟩), (6, ⟨[.int .i64 0, .int .i64 0, .int .i64 0, .int .i64 2], 29, true, 2⟩), (7, ⟨[.int .i64 1, .int .i64 1], 29, true, 2⟩)] ?_
  refine aw_tr 245466 ?_
  refine aw_sk ?_
  refine then_normal ?_
  refine aw_bl 3 122735 ?_
  refine aw_p1 (
    .a 4 8 <|
    .p (does_val (v' := .slice (some ⟨6, 0, none⟩) 1 0) (does_slice (t := 24) (x := .tmp 38) (lo := none) (hi := some (.tmp 41)) (k := 6) (off := 0) (n := 2) (c := 0) (z := 2) (l := 0) (h := 1) (m := 1) (b := ⟨[.int .i64 0, .int .i64 0, .int .i64 0, .int .i64 2], 29, true, 2⟩) (by kernel_rfl) (by kernel_rfl) (by kernel_rfl) (by kernel_rfl) (by kernel_rfl) (by kernel_rfl) (by kernel_rfl) (by kernel_rfl) (by decide) (by decide) (by decide) (by decide)) (by kernel_rfl)) <|
    .a 1 8 <| .nil _ _) ?_
  refine block_normal ?_
  refine then_normal ?_
  refine al_round ?_
  refine aw_sq 61366 61367 ?_
  refine aw_d 122733 (
    .a 22 8 <| .nil _ _) ?_
  refine aw_w [(0, .slice (some ⟨6, 0, none⟩) 1 0), (4, .slice none 0 0), (5, .int .i64 0), (7, .pointer (some ⟨7, 0, none⟩)), (10, .slice (some ⟨0, 0, none⟩) 5 0), (11, .int .i64 5), (12, .int .i64 2), (13, .bool true), (37, .bool false)] [(0, ⟨[.int .i64 0, .int .i64 0, .int .i64 0, .int .i64 2, .int .i64 1, .int .i64 1, .int .i64 2, .int .i64 0, .int .i64 2, .int .i64 2], 29, true, 2⟩), (6, ⟨[.int .i64 0, .int .i64 0, .int .i64 0, .int .i64 2], 29, true, 2⟩), (7, ⟨[.int .i64 1, .int .i64 1], 29, true, 2⟩)] ?_
  refine aw_fl 245467 ?_
  refine aw_ex 2 ?_
  refine then_exit ?_
  refine then_exit ?_
  refine block_exit ?_
  refine then_normal ?_
  refine aw_p1 (
    .a 3 8 <| .p (does_ap 9) <| .a 1 10 <| .nil _ _) ?_
  refine block_normal ?_
  refine then_normal ?_
  refine aw_p1 (
    .a 2 10 <| .nil _ _) ?_
  refine then_normal ?_
  refine al_round ?_
  refine aw_p 239 (
    .a 1 10 <| .nil _ _) ?_
  refine aw_sq 478 479 ?_
  refine aw_tr 956 ?_
  refine aw_sk ?_
  refine then_normal ?_
  refine aw_sq 958 959 ?_
  refine aw_bl 1 1917 ?_
  refine aw_p 3835 (
    .a 4 10 <| .nil _ _) ?_
  refine aw_sq 7670 7671 ?_
  refine aw_bl 2 15341 ?_
  refine aw_lp 30683 ?_
  refine al_round ?_
  refine aw_sq 61366 61367 ?_
  refine aw_d 122733 (
    .a 19 11 <| .p (does_c (au_hullBegun1_46)) <| .a 2 11 <| .nil _ _) ?_
  refine aw_w [(0, .slice (some ⟨9, 0, none⟩) 2 0), (4, .slice none 0 0), (5, .int .i64 0), (7, .pointer (some ⟨10, 0, none⟩)), (10, .slice (some ⟨0, 0, none⟩) 5 0), (11, .int .i64 5), (12, .int .i64 3), (13, .bool true), (37, .bool true)] [(0, ⟨[.int .i64 0, .int .i64 0, .int .i64 0, .int .i64 2, .int .i64 1, .int .i64 1, .int .i64 2, .int .i64 0, .int .i64 2, .int .i64 2], 29, true, 2⟩), (9, ⟨[.int .i64 0, .int .i64 0, .int .i64 1, .int .i64 1], 29, true, 2⟩), (10, ⟨[.int .i64 2, .int .i64 0], 29, true, 2⟩)] ?_
  refine aw_tr 245466 ?_
  refine aw_sk ?_
  refine then_normal ?_
  refine aw_bl 3 122735 ?_
  refine aw_p1 (
    .a 4 11 <|
    .p (does_val (v' := .slice (some ⟨9, 0, none⟩) 1 0) (does_slice (t := 24) (x := .tmp 38) (lo := none) (hi := some (.tmp 41)) (k := 9) (off := 0) (n := 2) (c := 0) (z := 2) (l := 0) (h := 1) (m := 1) (b := ⟨[.int .i64 0, .int .i64 0, .int .i64 1, .int .i64 1], 29, true, 2⟩) (by kernel_rfl) (by kernel_rfl) (by kernel_rfl) (by kernel_rfl) (by kernel_rfl) (by kernel_rfl) (by kernel_rfl) (by kernel_rfl) (by decide) (by decide) (by decide) (by decide)) (by kernel_rfl)) <|
    .a 1 11 <| .nil _ _) ?_
  refine block_normal ?_
  refine then_normal ?_
  refine al_round ?_
  refine aw_sq 61366 61367 ?_
  refine aw_d 122733 (
    .a 22 11 <| .nil _ _) ?_
  refine aw_w [(0, .slice (some ⟨9, 0, none⟩) 1 0), (4, .slice none 0 0), (5, .int .i64 0), (7, .pointer (some ⟨10, 0, none⟩)), (10, .slice (some ⟨0, 0, none⟩) 5 0), (11, .int .i64 5), (12, .int .i64 3), (13, .bool true), (37, .bool false)] [(0, ⟨[.int .i64 0, .int .i64 0, .int .i64 0, .int .i64 2, .int .i64 1, .int .i64 1, .int .i64 2, .int .i64 0, .int .i64 2, .int .i64 2], 29, true, 2⟩), (9, ⟨[.int .i64 0, .int .i64 0, .int .i64 1, .int .i64 1], 29, true, 2⟩), (10, ⟨[.int .i64 2, .int .i64 0], 29, true, 2⟩)] ?_
  refine aw_fl 245467 ?_
  refine aw_ex 2 ?_
  refine then_exit ?_
  refine then_exit ?_
  refine block_exit ?_
  refine then_normal ?_
  refine aw_p1 (
    .a 3 11 <| .p (does_ap 12) <| .a 1 13 <| .nil _ _) ?_
  refine block_normal ?_
  refine then_normal ?_
  refine aw_p1 (
    .a 2 13 <| .nil _ _) ?_
  refine then_normal ?_
  refine al_round ?_
  refine aw_p 239 (
    .a 1 13 <| .nil _ _) ?_
  refine aw_sq 478 479 ?_
  refine aw_tr 956 ?_
  refine aw_sk ?_
  refine then_normal ?_
  refine aw_sq 958 959 ?_
  refine aw_bl 1 1917 ?_
  refine aw_p 3835 (
    .a 4 13 <| .nil _ _) ?_
  refine aw_sq 7670 7671 ?_
  refine aw_bl 2 15341 ?_
  refine aw_lp 30683 ?_
  refine al_round ?_
  refine aw_sq 61366 61367 ?_
  refine aw_d 122733 (
    .a 19 14 <| .p (does_c (au_hullBegun1_51)) <| .a 2 14 <| .nil _ _) ?_
  refine aw_w [(0, .slice (some ⟨12, 0, none⟩) 2 0), (4, .slice none 0 0), (5, .int .i64 0), (7, .pointer (some ⟨13, 0, none⟩)), (10, .slice (some ⟨0, 0, none⟩) 5 0), (11, .int .i64 5), (12, .int .i64 4), (13, .bool true), (37, .bool false)] [(0, ⟨[.int .i64 0, .int .i64 0, .int .i64 0, .int .i64 2, .int .i64 1, .int .i64 1, .int .i64 2, .int .i64 0, .int .i64 2, .int .i64 2], 29, true, 2⟩), (12, ⟨[.int .i64 0, .int .i64 0, .int .i64 2, .int .i64 0], 29, true, 2⟩), (13, ⟨[.int .i64 2, .int .i64 2], 29, true, 2⟩)] ?_
  refine aw_fl 245467 ?_
  refine aw_ex 2 ?_
  refine then_exit ?_
  refine then_exit ?_
  refine block_exit ?_
  refine then_normal ?_
  refine aw_p1 (
    .a 3 14 <| .p (does_ap 15) <| .a 1 16 <| .nil _ _) ?_
  refine block_normal ?_
  refine then_normal ?_
  refine aw_p1 (
    .a 2 16 <| .nil _ _) ?_
  refine then_normal ?_
  refine al_round ?_
  refine aw_p 239 (
    .a 1 16 <| .nil _ _) ?_
  refine aw_sq 478 479 ?_
  refine aw_fl 957 ?_
  refine aw_ex 0 ?_
  refine then_exit ?_
  refine then_exit ?_
  refine block_exit ?_
  refine then_normal ?_
  refine aw_p 31 (
    .a 4 16 <|
    .p (does_val (v' := .slice (some ⟨15, 0, none⟩) 2 0) (does_slice (t := 24) (x := .tmp 48) (lo := none) (hi := some (.tmp 51)) (k := 15) (off := 0) (n := 3) (c := 0) (z := 2) (l := 0) (h := 2) (m := 2) (b := ⟨[.int .i64 0, .int .i64 0, .int .i64 2, .int .i64 0, .int .i64 2, .int .i64 2], 29, true, 2⟩) (by kernel_rfl) (by kernel_rfl) (by kernel_rfl) (by kernel_rfl) (by kernel_rfl) (by kernel_rfl) (by kernel_rfl) (by kernel_rfl) (by decide) (by decide) (by decide) (by decide)) (by kernel_rfl)) <|
    .a 1 16 <| .nil _ _) ?_
  refine aw_r [(1, 15)] [(4, .slice (some ⟨15, 0, none⟩) 2 0)] [(0, ⟨[.int .i64 0, .int .i64 0, .int .i64 0, .int .i64 2, .int .i64 1, .int .i64 1, .int .i64 2, .int .i64 0, .int .i64 2, .int .i64 2], 29, true, 2⟩), (15, ⟨[.int .i64 0, .int .i64 0, .int .i64 2, .int .i64 0, .int .i64 2, .int .i64 2], 29, true, 2⟩)] [(4, .slice (some ⟨1, 0, none⟩) 2 0)] [(0, ⟨[.int .i64 0, .int .i64 0, .int .i64 0, .int .i64 2, .int .i64 1, .int .i64 1, .int .i64 2, .int .i64 0, .int .i64 2, .int .i64 2], 29, true, 2⟩), (1, ⟨[.int .i64 0, .int .i64 0, .int .i64 2, .int .i64 0, .int .i64 2, .int .i64 2], 29, true, 2⟩)] ?_ ⟨rfl, (.slice _ _ _ _ _ rfl), trivial⟩ ⟨rfl, ⟨rfl, rfl, rfl, (.flats (by kernel_rfl))⟩, rfl, ⟨rfl, rfl, rfl, (.flats (by kernel_rfl))⟩, trivial⟩
  refine aw_rt ?_
  exact en_ret [.slice (some ⟨1, 0, none⟩) 2 0] (by kernel_rfl)

theorem au_hullBegun1_53  :
    AC Try.prog 85 1 ([.slice (some ⟨0, 0, none⟩) 5 0]) [(0, ⟨[.int .i64 0, .int .i64 0, .int .i64 0, .int .i64 2, .int .i64 1, .int .i64 1, .int .i64 2, .int .i64 0, .int .i64 2, .int .i64 2], 29, true, 2⟩)] (.tuple #[]) [(0, ⟨[.int .i64 2, .int .i64 2, .int .i64 2, .int .i64 0, .int .i64 1, .int .i64 1, .int .i64 0, .int .i64 2, .int .i64 0, .int .i64 0], 29, true, 2⟩)] := by
  refine ac_in Try.func85 (fun w0 W pin => ?_)
  refine aw_p 3 (
    .a 5 1 <| .nil _ _) ?_
  refine aw_bl 0 7 ?_
  refine aw_lp 15 ?_
  refine al_round ?_
  refine aw_sq 30 31 ?_
  refine aw_p 61 (
    .a 3 1 <| .nil _ _) ?_
  refine aw_tr 122 ?_
  refine aw_sk ?_
  refine then_normal ?_
  refine aw_sq 62 63 ?_
  refine aw_bl 1 125 ?_
  refine aw_d1 (
    .a 16 1 <| .nil _ _) ?_
  refine block_normal ?_
  refine then_normal ?_
  refine aw_p1 (
    .a 6 1 <| .nil _ _) ?_
  refine then_normal ?_
  refine al_round ?_
  refine aw_sq 30 31 ?_
  refine aw_p 61 (
    .a 3 1 <| .nil _ _) ?_
  refine aw_w [(0, .slice (some ⟨0, 0, none⟩) 5 0), (2, .int .i64 1), (3, .int .i64 3), (9, .bool true)] [(0, ⟨[.int .i64 2, .int .i64 2, .int .i64 0, .int .i64 2, .int .i64 1, .int .i64 1, .int .i64 2, .int .i64 0, .int .i64 0, .int .i64 0], 29, true, 2⟩)] ?_
  refine aw_tr 122 ?_
  refine aw_sk ?_
  refine then_normal ?_
  refine aw_sq 62 63 ?_
  refine aw_bl 1 125 ?_
  refine aw_d1 (
    .a 16 1 <| .nil _ _) ?_
  refine block_normal ?_
  refine then_normal ?_
  refine aw_p1 (
    .a 6 1 <| .nil _ _) ?_
  refine then_normal ?_
  refine al_round ?_
  refine aw_sq 30 31 ?_
  refine aw_p 61 (
    .a 3 1 <| .nil _ _) ?_
  refine aw_w [(0, .slice (some ⟨0, 0, none⟩) 5 0), (2, .int .i64 2), (3, .int .i64 2), (9, .bool false)] [(0, ⟨[.int .i64 2, .int .i64 2, .int .i64 2, .int .i64 0, .int .i64 1, .int .i64 1, .int .i64 0, .int .i64 2, .int .i64 0, .int .i64 0], 29, true, 2⟩)] ?_
  refine aw_fl 123 ?_
  refine aw_ex 0 ?_
  refine then_exit ?_
  refine then_exit ?_
  refine block_exit ?_
  exact en_normal [] (by kernel_rfl)

theorem au_hullBegun1_54  :
    AC Try.prog 117 0 ([.agg #[.int .i64 2, .int .i64 2], .agg #[.int .i64 2, .int .i64 0]]) [] (.agg #[.int .i64 0, .int .i64 (-2)]) [] := by
  refine ac_in Try.func117 (fun w0 W pin => ?_)
  refine aw_p 3 (
    .a 3 1 <| .nil _ _) ?_
  refine aw_d 7 (
    .a 1 4 <| .p (does_c (au_hullBegun1_12)) <| .a 1 4 <| .p (does_c (au_hullBegun1_9)) <| .a 2 4 <| .nil _ _) ?_
  refine aw_p 15 (
    .a 12 4 <| .nil _ _) ?_
  refine aw_rt ?_
  exact en_ret [.agg #[.int .i64 0, .int .i64 (-2)]] (by kernel_rfl)

theorem au_hullBegun1_55  :
    AC Try.prog 117 0 ([.agg #[.int .i64 2, .int .i64 2], .agg #[.int .i64 1, .int .i64 1]]) [] (.agg #[.int .i64 (-1), .int .i64 (-1)]) [] := by
  refine ac_in Try.func117 (fun w0 W pin => ?_)
  refine aw_p 3 (
    .a 3 1 <| .nil _ _) ?_
  refine aw_d 7 (
    .a 1 4 <| .p (does_c (au_hullBegun1_12)) <| .a 1 4 <| .p (does_c (au_hullBegun1_11)) <| .a 2 4 <| .nil _ _) ?_
  refine aw_p 15 (
    .a 12 4 <| .nil _ _) ?_
  refine aw_rt ?_
  exact en_ret [.agg #[.int .i64 (-1), .int .i64 (-1)]] (by kernel_rfl)

theorem au_hullBegun1_56  :
    AC Try.prog 80 0 ([.agg #[.int .i64 2, .int .i64 2], .agg #[.int .i64 2, .int .i64 0], .agg #[.int .i64 1, .int .i64 1]]) [] (.int .i64 (-2)) [] := by
  refine ac_in Try.func80 (fun w0 W pin => ?_)
  refine aw_p 3 (
    .a 4 1 <| .nil _ _) ?_
  refine aw_d 7 (
    .a 2 4 <| .p (does_c (au_hullBegun1_54)) <| .a 2 4 <| .p (does_c (au_hullBegun1_55)) <| .a 4 4 <| .nil _ _) ?_
  refine aw_p 15 (
    .a 12 6 <| .nil _ _) ?_
  refine aw_w [(6, .int .i64 (-2))] [] ?_
  refine aw_rt ?_
  exact en_ret [.int .i64 (-2)] (by kernel_rfl)

theorem au_hullBegun1_57  :
    AC Try.prog 35 0 ([.agg #[.int .i64 2, .int .i64 2], .agg #[.int .i64 2, .int .i64 0], .agg #[.int .i64 1, .int .i64 1]]) [] (.int .i64 (-1)) [] := by
  refine ac_in Try.func35 (fun w0 W pin => ?_)
  refine aw_p 3 (
    .a 4 1 <| .nil _ _) ?_
  refine aw_p 7 (
    .a 3 4 <| .p (does_c (au_hullBegun1_56)) <| .p (does_c (au_hullBegun1_42)) <| .a 1 4 <| .nil _ _) ?_
  refine aw_rt ?_
  exact en_ret [.int .i64 (-1)] (by kernel_rfl)

theorem au_hullBegun1_58  :
    AC Try.prog 117 0 ([.agg #[.int .i64 2, .int .i64 2], .agg #[.int .i64 0, .int .i64 2]]) [] (.agg #[.int .i64 (-2), .int .i64 0]) [] := by
  refine ac_in Try.func117 (fun w0 W pin => ?_)
  refine aw_p 3 (
    .a 3 1 <| .nil _ _) ?_
  refine aw_d 7 (
    .a 1 4 <| .p (does_c (au_hullBegun1_12)) <| .a 1 4 <| .p (does_c (au_hullBegun1_13)) <| .a 2 4 <| .nil _ _) ?_
  refine aw_p 15 (
    .a 12 4 <| .nil _ _) ?_
  refine aw_rt ?_
  exact en_ret [.agg #[.int .i64 (-2), .int .i64 0]] (by kernel_rfl)

theorem au_hullBegun1_59  :
    AC Try.prog 80 0 ([.agg #[.int .i64 2, .int .i64 2], .agg #[.int .i64 1, .int .i64 1], .agg #[.int .i64 0, .int .i64 2]]) [] (.int .i64 (-2)) [] := by
  refine ac_in Try.func80 (fun w0 W pin => ?_)
  refine aw_p 3 (
    .a 4 1 <| .nil _ _) ?_
  refine aw_d 7 (
    .a 2 4 <| .p (does_c (au_hullBegun1_55)) <| .a 2 4 <| .p (does_c (au_hullBegun1_58)) <| .a 4 4 <| .nil _ _) ?_
  refine aw_p 15 (
    .a 12 6 <| .nil _ _) ?_
  refine aw_w [(6, .int .i64 (-2))] [] ?_
  refine aw_rt ?_
  exact en_ret [.int .i64 (-2)] (by kernel_rfl)

theorem au_hullBegun1_60  :
    AC Try.prog 35 0 ([.agg #[.int .i64 2, .int .i64 2], .agg #[.int .i64 1, .int .i64 1], .agg #[.int .i64 0, .int .i64 2]]) [] (.int .i64 (-1)) [] := by
  refine ac_in Try.func35 (fun w0 W pin => ?_)
  refine aw_p 3 (
    .a 4 1 <| .nil _ _) ?_
  refine aw_p 7 (
    .a 3 4 <| .p (does_c (au_hullBegun1_59)) <| .p (does_c (au_hullBegun1_42)) <| .a 1 4 <| .nil _ _) ?_
  refine aw_rt ?_
  exact en_ret [.int .i64 (-1)] (by kernel_rfl)

theorem au_hullBegun1_61  :
    AC Try.prog 117 0 ([.agg #[.int .i64 2, .int .i64 2], .agg #[.int .i64 0, .int .i64 0]]) [] (.agg #[.int .i64 (-2), .int .i64 (-2)]) [] := by
  refine ac_in Try.func117 (fun w0 W pin => ?_)
  refine aw_p 3 (
    .a 3 1 <| .nil _ _) ?_
  refine aw_d 7 (
    .a 1 4 <| .p (does_c (au_hullBegun1_12)) <| .a 1 4 <| .p (does_c (au_hullBegun1_7)) <| .a 2 4 <| .nil _ _) ?_
  refine aw_p 15 (
    .a 12 4 <| .nil _ _) ?_
  refine aw_rt ?_
  exact en_ret [.agg #[.int .i64 (-2), .int .i64 (-2)]] (by kernel_rfl)

theorem au_hullBegun1_62  :
    AC Try.prog 80 0 ([.agg #[.int .i64 2, .int .i64 2], .agg #[.int .i64 0, .int .i64 2], .agg #[.int .i64 0, .int .i64 0]]) [] (.int .i64 4) [] := by
  refine ac_in Try.func80 (fun w0 W pin => ?_)
  refine aw_p 3 (
    .a 4 1 <| .nil _ _) ?_
  refine aw_d 7 (
    .a 2 4 <| .p (does_c (au_hullBegun1_58)) <| .a 2 4 <| .p (does_c (au_hullBegun1_61)) <| .a 4 4 <| .nil _ _) ?_
  refine aw_p 15 (
    .a 12 6 <| .nil _ _) ?_
  refine aw_w [(6, .int .i64 4)] [] ?_
  refine aw_rt ?_
  exact en_ret [.int .i64 4] (by kernel_rfl)

theorem au_hullBegun1_63  :
    AC Try.prog 35 0 ([.agg #[.int .i64 2, .int .i64 2], .agg #[.int .i64 0, .int .i64 2], .agg #[.int .i64 0, .int .i64 0]]) [] (.int .i64 1) [] := by
  refine ac_in Try.func35 (fun w0 W pin => ?_)
  refine aw_p 3 (
    .a 4 1 <| .nil _ _) ?_
  refine aw_p 7 (
    .a 3 4 <| .p (does_c (au_hullBegun1_62)) <| .p (does_c (au_hullBegun1_50)) <| .a 1 4 <| .nil _ _) ?_
  refine aw_rt ?_
  exact en_ret [.int .i64 1] (by kernel_rfl)

theorem au_hullBegun1_64  :
    AC Try.prog 84 2 ([.slice (some ⟨0, 0, none⟩) 2 0, .slice (some ⟨1, 0, none⟩) 5 0]) [(0, ⟨[.int .i64 0, .int .i64 0, .int .i64 2, .int .i64 0, .int .i64 2, .int .i64 2], 29, true, 2⟩), (1, ⟨[.int .i64 2, .int .i64 2, .int .i64 2, .int .i64 0, .int .i64 1, .int .i64 1, .int .i64 0, .int .i64 2, .int .i64 0, .int .i64 0], 29, true, 2⟩)] (.slice (some ⟨2, 0, none⟩) 4 0) [(1, ⟨[.int .i64 2, .int .i64 2, .int .i64 2, .int .i64 0, .int .i64 1, .int .i64 1, .int .i64 0, .int .i64 2, .int .i64 0, .int .i64 0], 29, true, 2⟩), (2, ⟨[.int .i64 0, .int .i64 0, .int .i64 2, .int .i64 0, .int .i64 2, .int .i64 2, .int .i64 0, .int .i64 2, .int .i64 0, .int .i64 0], 29, true, 2⟩)] := by
  refine ac_in Try.func84 (fun w0 W pin => ?_)
  refine aw_p 3 (
    .a 1 2 <| .nil _ _) ?_
  refine aw_p 7 (
    .a 3 2 <| .nil _ _) ?_
  refine aw_sq 14 15 ?_
  refine aw_p 29 (
    .a 3 2 <| .nil _ _) ?_
  refine aw_bl 0 59 ?_
  refine aw_lp 119 ?_
  refine al_round ?_
  refine aw_p 239 (
    .a 1 2 <| .nil _ _) ?_
  refine aw_sq 478 479 ?_
  refine aw_tr 956 ?_
  refine aw_sk ?_
  refine then_normal ?_
  refine aw_sq 958 959 ?_
  refine aw_bl 1 1917 ?_
  refine aw_p 3835 (
    .a 4 2 <| .nil _ _) ?_
  refine aw_sq 7670 7671 ?_
  refine aw_bl 2 15341 ?_
  refine aw_lp 30683 ?_
  refine al_round ?_
  refine aw_sq 61366 61367 ?_
  refine aw_d 122733 (
    .a 22 3 <| .nil _ _) ?_
  refine aw_w [(0, .slice (some ⟨0, 0, none⟩) 2 0), (4, .slice none 0 0), (5, .int .i64 2), (7, .pointer (some ⟨2, 0, none⟩)), (10, .slice (some ⟨1, 0, none⟩) 5 0), (11, .int .i64 5), (12, .int .i64 0), (13, .bool true), (37, .bool false)] [(0, ⟨[.int .i64 0, .int .i64 0, .int .i64 2, .int .i64 0, .int .i64 2, .int .i64 2], 29, true, 2⟩), (1, ⟨[.int .i64 2, .int .i64 2, .int .i64 2, .int .i64 0, .int .i64 1, .int .i64 1, .int .i64 0, .int .i64 2, .int .i64 0, .int .i64 0], 29, true, 2⟩), (2, ⟨[.int .i64 2, .int .i64 2], 29, true, 2⟩)] ?_
  refine aw_fl 245467 ?_
  refine aw_ex 2 ?_
  refine then_exit ?_
  refine then_exit ?_
  refine block_exit ?_
  refine then_normal ?_
  refine aw_p1 (
    .a 3 3 <| .p (does_ap 4) <| .a 1 5 <| .nil _ _) ?_
  refine block_normal ?_
  refine then_normal ?_
  refine aw_p1 (
    .a 2 5 <| .nil _ _) ?_
  refine then_normal ?_
  refine al_round ?_
  refine aw_p 239 (
    .a 1 5 <| .nil _ _) ?_
  refine aw_sq 478 479 ?_
  refine aw_tr 956 ?_
  refine aw_sk ?_
  refine then_normal ?_
  refine aw_sq 958 959 ?_
  refine aw_bl 1 1917 ?_
  refine aw_p 3835 (
    .a 4 5 <| .nil _ _) ?_
  refine aw_sq 7670 7671 ?_
  refine aw_bl 2 15341 ?_
  refine aw_lp 30683 ?_
  refine al_round ?_
  refine aw_sq 61366 61367 ?_
  refine aw_d 122733 (
    .a 22 6 <| .nil _ _) ?_
  refine aw_w [(0, .slice (some ⟨4, 0, none⟩) 3 0), (4, .slice none 0 0), (5, .int .i64 2), (7, .pointer (some ⟨5, 0, none⟩)), (10, .slice (some ⟨1, 0, none⟩) 5 0), (11, .int .i64 5), (12, .int .i64 1), (13, .bool true), (37, .bool false)] [(1, ⟨[.int .i64 2, .int .i64 2, .int .i64 2, .int .i64 0, .int .i64 1, .int .i64 1, .int .i64 0, .int .i64 2, .int .i64 0, .int .i64 0], 29, true, 2⟩), (4, ⟨[.int .i64 0, .int .i64 0, .int .i64 2, .int .i64 0, .int .i64 2, .int .i64 2], 29, true, 2⟩), (5, ⟨[.int .i64 2, .int .i64 0], 29, true, 2⟩)] ?_
  refine aw_fl 245467 ?_
  refine aw_ex 2 ?_
  refine then_exit ?_
  refine then_exit ?_
  refine block_exit ?_
  refine then_normal ?_
  refine aw_p1 (
    .a 3 6 <| .p (does_ap 7) <| .a 1 8 <| .nil _ _) ?_
  refine block_normal ?_
  refine then_normal ?_
  refine aw_p1 (
    .a 2 8 <| .nil _ _) ?_
  refine then_normal ?_
  refine al_round ?_
  refine aw_p 239 (
    .a 1 8 <| .nil _ _) ?_
  refine aw_sq 478 479 ?_
  refine aw_tr 956 ?_
  refine aw_sk ?_
  refine then_normal ?_
  refine aw_sq 958 959 ?_
  refine aw_bl 1 1917 ?_
  refine aw_p 3835 (
    .a 4 8 <| .nil _ _) ?_
  refine aw_sq 7670 7671 ?_
  refine aw_bl 2 15341 ?_
  refine aw_lp 30683 ?_
  refine al_round ?_
  refine aw_sq 61366 61367 ?_
  refine aw_d 122733 (
    .a 19 9 <| .p (does_c (au_hullBegun1_57)) <| .a 2 9 <| .nil _ _) ?_
  refine aw_w [(0, .slice (some ⟨7, 0, none⟩) 4 0), (4, .slice none 0 0), (5, .int .i64 2), (7, .pointer (some ⟨8, 0, none⟩)), (10, .slice (some ⟨1, 0, none⟩) 5 0), (11, .int .i64 5), (12, .int .i64 2), (13, .bool true), (37, .bool true)] [(1, ⟨[.int .i64 2, .int .i64 2, .int .i64 2, .int .i64 0, .int .i64 1, .int .i64 1, .int .i64 0, .int .i64 2, .int .i64 0, .int .i64 0], 29, true, 2⟩), (7, ⟨[.int .i64 0, .int .i64 0, .int .i64 2, .int .i64 0, .int .i64 2, .int .i64 2, .int .i64 2, .int .i64 0], 29, true, 2⟩), (8, ⟨[.int .i64 1, .int .i64 1], 29, true, 2⟩)] ?_
  refine aw_tr 245466 ?_
  refine aw_sk ?_
  refine then_normal ?_
  refine aw_bl 3 122735 ?_
  refine aw_p1 (
    .a 4 9 <|
    .p (does_val (v' := .slice (some ⟨7, 0, none⟩) 3 0) (does_slice (t := 24) (x := .tmp 38) (lo := none) (hi := some (.tmp 41)) (k := 7) (off := 0) (n := 4) (c := 0) (z := 2) (l := 0) (h := 3) (m := 3) (b := ⟨[.int .i64 0, .int .i64 0, .int .i64 2, .int .i64 0, .int .i64 2, .int .i64 2, .int .i64 2, .int .i64 0], 29, true, 2⟩) (by kernel_rfl) (by kernel_rfl) (by kernel_rfl) (by kernel_rfl) (by kernel_rfl) (by kernel_rfl) (by kernel_rfl) (by kernel_rfl) (by decide) (by decide) (by decide) (by decide)) (by kernel_rfl)) <|
    .a 1 9 <| .nil _ _) ?_
  refine block_normal ?_
  refine then_normal ?_
  refine al_round ?_
  refine aw_sq 61366 61367 ?_
  refine aw_d 122733 (
    .a 22 9 <| .nil _ _) ?_
  refine aw_w [(0, .slice (some ⟨7, 0, none⟩) 3 0), (4, .slice none 0 0), (5, .int .i64 2), (7, .pointer (some ⟨8, 0, none⟩)), (10, .slice (some ⟨1, 0, none⟩) 5 0), (11, .int .i64 5), (12, .int .i64 2), (13, .bool true), (37, .bool false)] [(1, ⟨[.int .i64 2, .int .i64 2, .int .i64 2, .int .i64 0, .int .i64 1, .int .i64 1, .int .i64 0, .int .i64 2, .int .i64 0, .int .i64 0], 29, true, 2⟩), (7, ⟨[.int .i64 0, .int .i64 0, .int .i64 2, .int .i64 0, .int .i64 2, .int .i64 2, .int .i64 2, .int .i64 0], 29, true, 2⟩), (8, ⟨[.int .i64 1, .int .i64 1], 29, true, 2⟩)] ?_
  refine aw_fl 245467 ?_
  refine aw_ex 2 ?_
  refine then_exit ?_
  refine then_exit ?_
  refine block_exit ?_
  refine then_normal ?_
  refine aw_p1 (
    .a 3 9 <| .p (does_ap 10) <| .a 1 11 <| .nil _ _) ?_
  refine block_normal ?_
  refine then_normal ?_
  refine aw_p1 (
    .a 2 11 <| .nil _ _) ?_
  refine then_normal ?_
  refine al_round ?_
  refine aw_p 239 (
    .a 1 11 <| .nil _ _) ?_
  refine aw_sq 478 479 ?_
  refine aw_tr 956 ?_
  refine aw_sk ?_
  refine then_normal ?_
  refine aw_sq 958 959 ?_
  refine aw_bl 1 1917 ?_
  refine aw_p 3835 (
    .a 4 11 <| .nil _ _) ?_
  refine aw_sq 7670 7671 ?_
  refine aw_bl 2 15341 ?_
  refine aw_lp 30683 ?_
  refine al_round ?_
  refine aw_sq 61366 61367 ?_
  refine aw_d 122733 (
    .a 19 12 <| .p (does_c (au_hullBegun1_60)) <| .a 2 12 <| .nil _ _) ?_
  refine aw_w [(0, .slice (some ⟨10, 0, none⟩) 4 0), (4, .slice none 0 0), (5, .int .i64 2), (7, .pointer (some ⟨11, 0, none⟩)), (10, .slice (some ⟨1, 0, none⟩) 5 0), (11, .int .i64 5), (12, .int .i64 3), (13, .bool true), (37, .bool true)] [(1, ⟨[.int .i64 2, .int .i64 2, .int .i64 2, .int .i64 0, .int .i64 1, .int .i64 1, .int .i64 0, .int .i64 2, .int .i64 0, .int .i64 0], 29, true, 2⟩), (10, ⟨[.int .i64 0, .int .i64 0, .int .i64 2, .int .i64 0, .int .i64 2, .int .i64 2, .int .i64 1, .int .i64 1], 29, true, 2⟩), (11, ⟨[.int .i64 0, .int .i64 2], 29, true, 2⟩)] ?_
  refine aw_tr 245466 ?_
  refine aw_sk ?_
  refine then_normal ?_
  refine aw_bl 3 122735 ?_
  refine aw_p1 (
    .a 4 12 <|
    .p (does_val (v' := .slice (some ⟨10, 0, none⟩) 3 0) (does_slice (t := 24) (x := .tmp 38) (lo := none) (hi := some (.tmp 41)) (k := 10) (off := 0) (n := 4) (c := 0) (z := 2) (l := 0) (h := 3) (m := 3) (b := ⟨[.int .i64 0, .int .i64 0, .int .i64 2, .int .i64 0, .int .i64 2, .int .i64 2, .int .i64 1, .int .i64 1], 29, true, 2⟩) (by kernel_rfl) (by kernel_rfl) (by kernel_rfl) (by kernel_rfl) (by kernel_rfl) (by kernel_rfl) (by kernel_rfl) (by kernel_rfl) (by decide) (by decide) (by decide) (by decide)) (by kernel_rfl)) <|
    .a 1 12 <| .nil _ _) ?_
  refine block_normal ?_
  refine then_normal ?_
  refine al_round ?_
  refine aw_sq 61366 61367 ?_
  refine aw_d 122733 (
    .a 22 12 <| .nil _ _) ?_
  refine aw_w [(0, .slice (some ⟨10, 0, none⟩) 3 0), (4, .slice none 0 0), (5, .int .i64 2), (7, .pointer (some ⟨11, 0, none⟩)), (10, .slice (some ⟨1, 0, none⟩) 5 0), (11, .int .i64 5), (12, .int .i64 3), (13, .bool true), (37, .bool false)] [(1, ⟨[.int .i64 2, .int .i64 2, .int .i64 2, .int .i64 0, .int .i64 1, .int .i64 1, .int .i64 0, .int .i64 2, .int .i64 0, .int .i64 0], 29, true, 2⟩), (10, ⟨[.int .i64 0, .int .i64 0, .int .i64 2, .int .i64 0, .int .i64 2, .int .i64 2, .int .i64 1, .int .i64 1], 29, true, 2⟩), (11, ⟨[.int .i64 0, .int .i64 2], 29, true, 2⟩)] ?_
  refine aw_fl 245467 ?_
  refine aw_ex 2 ?_
  refine then_exit ?_
  refine then_exit ?_
  refine block_exit ?_
  refine then_normal ?_
  refine aw_p1 (
    .a 3 12 <| .p (does_ap 13) <| .a 1 14 <| .nil _ _) ?_
  refine block_normal ?_
  refine then_normal ?_
  refine aw_p1 (
    .a 2 14 <| .nil _ _) ?_
  refine then_normal ?_
  refine al_round ?_
  refine aw_p 239 (
    .a 1 14 <| .nil _ _) ?_
  refine aw_sq 478 479 ?_
  refine aw_tr 956 ?_
  refine aw_sk ?_
  refine then_normal ?_
  refine aw_sq 958 959 ?_
  refine aw_bl 1 1917 ?_
  refine aw_p 3835 (
    .a 4 14 <| .nil _ _) ?_
  refine aw_sq 7670 7671 ?_
  refine aw_bl 2 15341 ?_
  refine aw_lp 30683 ?_
  refine al_round ?_
  refine aw_sq 61366 61367 ?_
  refine aw_d 122733 (
    .a 19 15 <| .p (does_c (au_hullBegun1_63)) <| .a 2 15 <| .nil _ _) ?_
  refine aw_w [(0, .slice (some ⟨13, 0, none⟩) 4 0), (4, .slice none 0 0), (5, .int .i64 2), (7, .pointer (some ⟨14, 0, none⟩)), (10, .slice (some ⟨1, 0, none⟩) 5 0), (11, .int .i64 5), (12, .int .i64 4), (13, .bool true), (37, .bool false)] [(1, ⟨[.int .i64 2, .int .i64 2, .int .i64 2, .int .i64 0, .int .i64 1, .int .i64 1, .int .i64 0, .int .i64 2, .int .i64 0, .int .i64 0], 29, true, 2⟩), (13, ⟨[.int .i64 0, .int .i64 0, .int .i64 2, .int .i64 0, .int .i64 2, .int .i64 2, .int .i64 0, .int .i64 2], 29, true, 2⟩), (14, ⟨[.int .i64 0, .int .i64 0], 29, true, 2⟩)] ?_
  refine aw_fl 245467 ?_
  refine aw_ex 2 ?_
  refine then_exit ?_
  refine then_exit ?_
  refine block_exit ?_
  refine then_normal ?_
  refine aw_p1 (
    .a 3 15 <| .p (does_ap 16) <| .a 1 17 <| .nil _ _) ?_
  refine block_normal ?_
  refine then_normal ?_
  refine aw_p1 (
    .a 2 17 <| .nil _ _) ?_
  refine then_normal ?_
  refine al_round ?_
  refine aw_p 239 (
    .a 1 17 <| .nil _ _) ?_
  refine aw_sq 478 479 ?_
  refine aw_fl 957 ?_
  refine aw_ex 0 ?_
  refine then_exit ?_
  refine then_exit ?_
  refine block_exit ?_
  refine then_normal ?_
  refine aw_p 31 (
    .a 4 17 <|
    .p (does_val (v' := .slice (some ⟨16, 0, none⟩) 4 0) (does_slice (t := 24) (x := .tmp 48) (lo := none) (hi := some (.tmp 51)) (k := 16) (off := 0) (n := 5) (c := 0) (z := 2) (l := 0) (h := 4) (m := 4) (b := ⟨[.int .i64 0, .int .i64 0, .int .i64 2, .int .i64 0, .int .i64 2, .int .i64 2, .int .i64 0, .int .i64 2, .int .i64 0, .int .i64 0], 29, true, 2⟩) (by kernel_rfl) (by kernel_rfl) (by kernel_rfl) (by kernel_rfl) (by kernel_rfl) (by kernel_rfl) (by kernel_rfl) (by kernel_rfl) (by decide) (by decide) (by decide) (by decide)) (by kernel_rfl)) <|
    .a 1 17 <| .nil _ _) ?_
  refine aw_r [(2, 16)] [(4, .slice (some ⟨16, 0, none⟩) 4 0)] [(1, ⟨[.int .i64 2, .int .i64 2, .int .i64 2, .int .i64 0, .int .i64 1, .int .i64 1, .int .i64 0, .int .i64 2, .int .i64 0, .int .i64 0], 29, true, 2⟩), (16, ⟨[.int .i64 0, .int .i64 0, .int .i64 2, .int .i64 0, .int .i64 2, .int .i64 2, .int .i64 0, .int .i64 2, .int .i64 0, .int .i64 0], 29, true, 2⟩)] [(4, .slice (some ⟨2, 0, none⟩) 4 0)] [(1, ⟨[.int .i64 2, .int .i64 2, .int .i64 2, .int .i64 0, .int .i64 1, .int .i64 1, .int .i64 0, .int .i64 2, .int .i64 0, .int .i64 0], 29, true, 2⟩), (2, ⟨[.int .i64 0, .int .i64 0, .int .i64 2, .int .i64 0, .int .i64 2, .int .i64 2, .int .i64 0, .int .i64 2, .int .i64 0, .int .i64 0], 29, true, 2⟩)] ?_ ⟨rfl, (.slice _ _ _ _ _ rfl), trivial⟩ ⟨rfl, ⟨rfl, rfl, rfl, (.flats (by kernel_rfl))⟩, rfl, ⟨rfl, rfl, rfl, (.flats (by kernel_rfl))⟩, trivial⟩
  refine aw_rt ?_
  exact en_ret [.slice (some ⟨2, 0, none⟩) 4 0] (by kernel_rfl)

theorem au_hullBegun1_65  :
    AC Try.prog 36 1 ([.slice (some ⟨0, 0, none⟩) 5 0]) [(0, ⟨[.int .i64 0, .int .i64 0, .int .i64 2, .int .i64 0, .int .i64 1, .int .i64 1, .int .i64 2, .int .i64 2, .int .i64 0, .int .i64 2], 29, true, 2⟩)] (.slice (some ⟨1, 0, none⟩) 4 0) [(0, ⟨[.int .i64 0, .int .i64 0, .int .i64 2, .int .i64 0, .int .i64 1, .int .i64 1, .int .i64 2, .int .i64 2, .int .i64 0, .int .i64 2], 29, true, 2⟩), (1, ⟨[.int .i64 0, .int .i64 0, .int .i64 2, .int .i64 0, .int .i64 2, .int .i64 2, .int .i64 0, .int .i64 2, .int .i64 0, .int .i64 0], 29, true, 2⟩)] := by
  refine ac_in Try.func36 (fun w0 W pin => ?_)
  refine aw_p 3 (
    .a 1 1 <| .nil _ _) ?_
  refine aw_p 7 (
    .a 2 1 <| .p (does_mk (kl := .i64) (kc := .i64) (n' := 0) (c' := 5) 1 29 2 16 0 5 (.agg #[.int .i64 0, .int .i64 0]) [] (by kernel_rfl) (by kernel_rfl) (by kernel_rfl) (by kernel_rfl) (by decide) (by decide) (by decide) (by decide) (by decide)) <| .a 1 2 <| .nil _ _) ?_
  refine aw_sq 14 15 ?_
  refine aw_p 29 (
    .a 3 2 <| .nil _ _) ?_
  refine aw_bl 0 59 ?_
  refine aw_lp 119 ?_
  refine al_round ?_
  refine aw_p 239 (
    .a 1 2 <| .nil _ _) ?_
  refine aw_sq 478 479 ?_
  refine aw_tr 956 ?_
  refine aw_sk ?_
  refine then_normal ?_
  refine aw_sq 958 959 ?_
  refine aw_bl 1 1917 ?_
  refine aw_p 3835 (
    .a 4 2 <| .nil _ _) ?_
  refine aw_p1 (
    .a 2 3 <| .p (does_c (au_hullBegun1_7)) <| .a 1 3 <| .p (does_ap 4) <| .a 1 5 <| .nil _ _) ?_
  refine block_normal ?_
  refine then_normal ?_
  refine aw_p1 (
    .a 2 5 <| .nil _ _) ?_
  refine then_normal ?_
  refine al_round ?_
  refine aw_p 239 (
    .a 1 5 <| .nil _ _) ?_
  refine aw_sq 478 479 ?_
  refine aw_tr 956 ?_
  refine aw_sk ?_
  refine then_normal ?_
  refine aw_sq 958 959 ?_
  refine aw_bl 1 1917 ?_
  refine aw_p 3835 (
    .a 4 5 <| .nil _ _) ?_
  refine aw_w [(2, .slice none 0 0), (3, .slice (some ⟨4, 0, none⟩) 1 0), (5, .pointer (some ⟨5, 0, none⟩)), (10, .slice (some ⟨0, 0, none⟩) 5 0), (11, .int .i64 5), (12, .int .i64 1), (13, .bool true)] [(0, ⟨[.int .i64 0, .int .i64 0, .int .i64 2, .int .i64 0, .int .i64 1, .int .i64 1, .int .i64 2, .int .i64 2, .int .i64 0, .int .i64 2], 29, true, 2⟩), (4, ⟨[.int .i64 0, .int .i64 0], 29, true, 2⟩), (5, ⟨[.int .i64 2, .int .i64 0], 29, true, 2⟩)] ?_
  refine aw_p1 (
    .a 2 6 <| .p (does_c (au_hullBegun1_9)) <| .a 1 6 <| .p (does_ap 7) <| .a 1 8 <| .nil _ _) ?_
  refine block_normal ?_
  refine then_normal ?_
  refine aw_p1 (
    .a 2 8 <| .nil _ _) ?_
  refine then_normal ?_
  refine al_round ?_
  refine aw_p 239 (
    .a 1 8 <| .nil _ _) ?_
  refine aw_sq 478 479 ?_
  refine aw_tr 956 ?_
  refine aw_sk ?_
  refine then_normal ?_
  refine aw_sq 958 959 ?_
  refine aw_bl 1 1917 ?_
  refine aw_p 3835 (
    .a 4 8 <| .nil _ _) ?_
  refine aw_p1 (
    .a 2 9 <| .p (does_c (au_hullBegun1_11)) <| .a 1 9 <| .p (does_ap 10) <| .a 1 11 <| .nil _ _) ?_
  refine block_normal ?_
  refine then_normal ?_
  refine aw_p1 (
    .a 2 11 <| .nil _ _) ?_
  refine then_normal ?_
  refine al_round ?_
  refine aw_p 239 (
    .a 1 11 <| .nil _ _) ?_
  refine aw_sq 478 479 ?_
  refine aw_tr 956 ?_
  refine aw_sk ?_
  refine then_normal ?_
  refine aw_sq 958 959 ?_
  refine aw_bl 1 1917 ?_
  refine aw_p 3835 (
    .a 4 11 <| .nil _ _) ?_
  refine aw_w [(2, .slice none 0 0), (3, .slice (some ⟨10, 0, none⟩) 3 0), (5, .pointer (some ⟨11, 0, none⟩)), (10, .slice (some ⟨0, 0, none⟩) 5 0), (11, .int .i64 5), (12, .int .i64 3), (13, .bool true)] [(0, ⟨[.int .i64 0, .int .i64 0, .int .i64 2, .int .i64 0, .int .i64 1, .int .i64 1, .int .i64 2, .int .i64 2, .int .i64 0, .int .i64 2], 29, true, 2⟩), (10, ⟨[.int .i64 0, .int .i64 0, .int .i64 2, .int .i64 0, .int .i64 1, .int .i64 1], 29, true, 2⟩), (11, ⟨[.int .i64 2, .int .i64 2], 29, true, 2⟩)] ?_
  refine aw_p1 (
    .a 2 12 <| .p (does_c (au_hullBegun1_12)) <| .a 1 12 <| .p (does_ap 13) <| .a 1 14 <| .nil _ _) ?_
  refine block_normal ?_
  refine then_normal ?_
  refine aw_p1 (
    .a 2 14 <| .nil _ _) ?_
  refine then_normal ?_
  refine al_round ?_
  refine aw_p 239 (
    .a 1 14 <| .nil _ _) ?_
  refine aw_sq 478 479 ?_
  refine aw_tr 956 ?_
  refine aw_sk ?_
  refine then_normal ?_
  refine aw_sq 958 959 ?_
  refine aw_bl 1 1917 ?_
  refine aw_p 3835 (
    .a 4 14 <| .nil _ _) ?_
  refine aw_p1 (
    .a 2 15 <| .p (does_c (au_hullBegun1_13)) <| .a 1 15 <| .p (does_ap 16) <| .a 1 17 <| .nil _ _) ?_
  refine block_normal ?_
  refine then_normal ?_
  refine aw_p1 (
    .a 2 17 <| .nil _ _) ?_
  refine then_normal ?_
  refine al_round ?_
  refine aw_p 239 (
    .a 1 17 <| .nil _ _) ?_
  refine aw_sq 478 479 ?_
  refine aw_fl 957 ?_
  refine aw_ex 0 ?_
  refine then_exit ?_
  refine then_exit ?_
  refine block_exit ?_
  refine then_normal ?_
  refine aw_p 31 (
    .a 1 17 <| .p (does_k [16] (au_hullBegun1_36)) <| .nil _ _) ?_
  refine aw_p 63 (
    .a 1 17 <| .p (does_k [16] (au_hullBegun1_37)) <| .a 1 17 <| .nil _ _) ?_
  refine aw_w [(2, .slice none 0 0), (3, .slice (some ⟨16, 0, none⟩) 5 0)] [(0, ⟨[.int .i64 0, .int .i64 0, .int .i64 2, .int .i64 0, .int .i64 1, .int .i64 1, .int .i64 2, .int .i64 2, .int .i64 0, .int .i64 2], 29, true, 2⟩), (16, ⟨[.int .i64 0, .int .i64 0, .int .i64 0, .int .i64 2, .int .i64 1, .int .i64 1, .int .i64 2, .int .i64 0, .int .i64 2, .int .i64 2], 29, true, 2⟩)] ?_
  refine aw_sq 126 127 ?_
  refine aw_p 253 (
    .a 3 17 <| .nil _ _) ?_
  refine aw_fl 507 ?_
  refine aw_sk ?_
  refine then_normal ?_
  refine aw_p 255 (
    .a 1 17 <| .p (does_k [16, 17] (au_hullBegun1_52)) <| .a 1 18 <| .nil _ _) ?_
  refine aw_p 511 (
    .a 1 18 <| .p (does_k [16] (au_hullBegun1_53)) <| .nil _ _) ?_
  refine aw_p 1023 (
    .a 2 18 <| .p (does_k [17, 16, 18] (au_hullBegun1_64)) <| .a 1 19 <| .nil _ _) ?_
  refine aw_r [(1, 18)] [(2, .slice (some ⟨18, 0, none⟩) 4 0)] [(0, ⟨[.int .i64 0, .int .i64 0, .int .i64 2, .int .i64 0, .int .i64 1, .int .i64 1, .int .i64 2, .int .i64 2, .int .i64 0, .int .i64 2], 29, true, 2⟩), (18, ⟨[.int .i64 0, .int .i64 0, .int .i64 2, .int .i64 0, .int .i64 2, .int .i64 2, .int .i64 0, .int .i64 2, .int .i64 0, .int .i64 0], 29, true, 2⟩)] [(2, .slice (some ⟨1, 0, none⟩) 4 0)] [(0, ⟨[.int .i64 0, .int .i64 0, .int .i64 2, .int .i64 0, .int .i64 1, .int .i64 1, .int .i64 2, .int .i64 2, .int .i64 0, .int .i64 2], 29, true, 2⟩), (1, ⟨[.int .i64 0, .int .i64 0, .int .i64 2, .int .i64 0, .int .i64 2, .int .i64 2, .int .i64 0, .int .i64 2, .int .i64 0, .int .i64 0], 29, true, 2⟩)] ?_ ⟨rfl, (.slice _ _ _ _ _ rfl), trivial⟩ ⟨rfl, ⟨rfl, rfl, rfl, (.flats (by kernel_rfl))⟩, rfl, ⟨rfl, rfl, rfl, (.flats (by kernel_rfl))⟩, trivial⟩
  refine aw_rt ?_
  exact en_ret [.slice (some ⟨1, 0, none⟩) 4 0] (by kernel_rfl)

theorem hullBegun1_ok  :
    AC Try.prog 39 0 ([]) [] (.bool true) [] := by
  refine ac_in Try.func39 (fun w0 W pin => ?_)
  refine aw_p 3 (
    .a 1 1 <| .nil _ _) ?_
  refine aw_p 7 (
    .p (does_c (au_hullBegun1_1)) <| .p (does_c (au_hullBegun1_2)) <| .p (does_c (au_hullBegun1_3)) <| .p (does_c (au_hullBegun1_4)) <| .p (does_c (au_hullBegun1_5)) <| .a 1 1 <| .p (does_k [1, 2] (au_hullBegun1_65)) <| .a 3 3 <| .nil _ _) ?_
  refine aw_rt ?_
  exact en_ret [.bool true] (by kernel_rfl)

end Go.Proofs.Ytadifmimefmcnaa.Am
