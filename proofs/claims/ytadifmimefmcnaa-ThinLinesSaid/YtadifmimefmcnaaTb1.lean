/-
  What is begun: closed walks.
-/
import Derived.Test.YtadifmimefmcnaaProg
import Derived.Test.YtadifmimefmcnaaAm16
import Derived.Test.YtadifmimefmcnaaAm22
import Derived.Test.YtadifmimefmcnaaWd2
namespace Go.Proofs.Ytadifmimefmcnaa.Am
open Go Go.Proofs
set_option maxRecDepth 100000
set_option maxHeartbeats 4000000
set_option linter.unusedVariables false
set_option linter.unusedSimpArgs false

theorem au_thinBegun1_1  :
    AC Try.prog 62 0 ([.int .i64 0, .int .i64 0]) [] (.agg #[.int .i64 0, .int .i64 0]) [] := by
  refine ac_in Try.func62 (fun w0 W pin => ?_)
  refine aw_p 3 (
    .a 1 1 <| .nil _ _) ?_
  refine aw_p 7 (
    .a 4 2 <| .nil _ _) ?_
  refine aw_rt ?_
  exact en_ret [.agg #[.int .i64 0, .int .i64 0]] (by kernel_rfl)

theorem au_thinBegun1_2  :
    AC Try.prog 62 0 ([.int .i64 5, .int .i64 1]) [] (.agg #[.int .i64 5, .int .i64 1]) [] := by
  refine ac_in Try.func62 (fun w0 W pin => ?_)
  refine aw_p 3 (
    .a 1 1 <| .nil _ _) ?_
  refine aw_p 7 (
    .a 4 2 <| .nil _ _) ?_
  refine aw_rt ?_
  exact en_ret [.agg #[.int .i64 5, .int .i64 1]] (by kernel_rfl)

theorem au_thinBegun1_3  :
    AC Try.prog 62 0 ([.int .i64 10, .int .i64 0]) [] (.agg #[.int .i64 10, .int .i64 0]) [] := by
  refine ac_in Try.func62 (fun w0 W pin => ?_)
  refine aw_p 3 (
    .a 1 1 <| .nil _ _) ?_
  refine aw_p 7 (
    .a 4 2 <| .nil _ _) ?_
  refine aw_rt ?_
  exact en_ret [.agg #[.int .i64 10, .int .i64 0]] (by kernel_rfl)

theorem au_thinBegun1_4  :
    AC Try.prog 101 0 ([.int .i64 0, .int .i64 1048576]) [] (.int .i64 0) [] := by
  refine ac_in Try.func101 (fun w0 W pin => ?_)
  refine aw_p 3 (
    .a 1 1 <| .nil _ _) ?_
  refine aw_p 7 (
    .a 7 1 <| .nil _ _) ?_
  refine aw_rt ?_
  exact en_ret [.int .i64 0] (by kernel_rfl)

theorem au_thinBegun1_5  :
    AC Try.prog 56 0 ([.agg #[.int .i64 0, .int .i64 0]]) [] (.agg #[.int .i64 0, .int .i64 0]) [] := by
  refine ac_in Try.func56 (fun w0 W pin => ?_)
  refine aw_p 3 (
    .a 2 1 <| .nil _ _) ?_
  refine aw_d 7 (
    .a 2 3 <| .p (does_c (au_thinBegun1_4)) <| .a 2 3 <| .p (does_c (au_thinBegun1_4)) <| .a 2 3 <| .nil _ _) ?_
  refine aw_rt ?_
  exact en_ret [.agg #[.int .i64 0, .int .i64 0]] (by kernel_rfl)

theorem au_thinBegun1_6  :
    AC Try.prog 101 0 ([.int .i64 5, .int .i64 1048576]) [] (.int .i64 5) [] := by
  refine ac_in Try.func101 (fun w0 W pin => ?_)
  refine aw_p 3 (
    .a 1 1 <| .nil _ _) ?_
  refine aw_p 7 (
    .a 7 1 <| .nil _ _) ?_
  refine aw_rt ?_
  exact en_ret [.int .i64 5] (by kernel_rfl)

theorem au_thinBegun1_7  :
    AC Try.prog 101 0 ([.int .i64 1, .int .i64 1048576]) [] (.int .i64 1) [] := by
  refine ac_in Try.func101 (fun w0 W pin => ?_)
  refine aw_p 3 (
    .a 1 1 <| .nil _ _) ?_
  refine aw_p 7 (
    .a 7 1 <| .nil _ _) ?_
  refine aw_rt ?_
  exact en_ret [.int .i64 1] (by kernel_rfl)

theorem au_thinBegun1_8  :
    AC Try.prog 56 0 ([.agg #[.int .i64 5, .int .i64 1]]) [] (.agg #[.int .i64 5, .int .i64 1]) [] := by
  refine ac_in Try.func56 (fun w0 W pin => ?_)
  refine aw_p 3 (
    .a 2 1 <| .nil _ _) ?_
  refine aw_d 7 (
    .a 2 3 <| .p (does_c (au_thinBegun1_6)) <| .a 2 3 <| .p (does_c (au_thinBegun1_7)) <| .a 2 3 <| .nil _ _) ?_
  refine aw_rt ?_
  exact en_ret [.agg #[.int .i64 5, .int .i64 1]] (by kernel_rfl)

theorem au_thinBegun1_9  :
    AC Try.prog 101 0 ([.int .i64 10, .int .i64 1048576]) [] (.int .i64 10) [] := by
  refine ac_in Try.func101 (fun w0 W pin => ?_)
  refine aw_p 3 (
    .a 1 1 <| .nil _ _) ?_
  refine aw_p 7 (
    .a 7 1 <| .nil _ _) ?_
  refine aw_rt ?_
  exact en_ret [.int .i64 10] (by kernel_rfl)

theorem au_thinBegun1_10  :
    AC Try.prog 56 0 ([.agg #[.int .i64 10, .int .i64 0]]) [] (.agg #[.int .i64 10, .int .i64 0]) [] := by
  refine ac_in Try.func56 (fun w0 W pin => ?_)
  refine aw_p 3 (
    .a 2 1 <| .nil _ _) ?_
  refine aw_d 7 (
    .a 2 3 <| .p (does_c (au_thinBegun1_9)) <| .a 2 3 <| .p (does_c (au_thinBegun1_4)) <| .a 2 3 <| .nil _ _) ?_
  refine aw_rt ?_
  exact en_ret [.agg #[.int .i64 10, .int .i64 0]] (by kernel_rfl)

theorem au_thinBegun1_11  :
    AC Try.prog 117 0 ([.agg #[.int .i64 0, .int .i64 0], .agg #[.int .i64 10, .int .i64 0]]) [] (.agg #[.int .i64 10, .int .i64 0]) [] := by
  refine ac_in Try.func117 (fun w0 W pin => ?_)
  refine aw_p 3 (
    .a 3 1 <| .nil _ _) ?_
  refine aw_d 7 (
    .a 1 4 <| .p (does_c (au_thinBegun1_5)) <| .a 1 4 <| .p (does_c (au_thinBegun1_10)) <| .a 2 4 <| .nil _ _) ?_
  refine aw_p 15 (
    .a 12 4 <| .nil _ _) ?_
  refine aw_rt ?_
  exact en_ret [.agg #[.int .i64 10, .int .i64 0]] (by kernel_rfl)

theorem au_thinBegun1_12  :
    AC Try.prog 115 0 ([.agg #[.int .i64 0, .int .i64 0], .agg #[.int .i64 10, .int .i64 0], .agg #[.int .i64 10, .int .i64 0]]) [] (.int .i64 100) [] := by
  refine ac_in Try.func115 (fun w0 W pin => ?_)
  refine aw_p 3 (
    .a 4 1 <| .nil _ _) ?_
  refine aw_d 7 (
    .a 2 4 <| .p (does_c (au_thinBegun1_11)) <| .a 2 4 <| .p (does_c (au_thinBegun1_11)) <| .a 4 4 <| .nil _ _) ?_
  refine aw_p 15 (
    .a 12 6 <| .nil _ _) ?_
  refine aw_w [(6, .int .i64 100)] [] ?_
  refine aw_rt ?_
  exact en_ret [.int .i64 100] (by kernel_rfl)

theorem au_thinBegun1_13  :
    AC Try.prog 77 0 ([.agg #[.int .i64 0, .int .i64 0], .agg #[.int .i64 10, .int .i64 0]]) [] (.int .i64 100) [] := by
  refine ac_in Try.func77 (fun w0 W pin => ?_)
  refine aw_p 3 (
    .a 3 1 <| .nil _ _) ?_
  refine aw_p 7 (
    .a 3 3 <| .p (does_c (au_thinBegun1_12)) <| .a 1 3 <| .nil _ _) ?_
  refine aw_rt ?_
  exact en_ret [.int .i64 100] (by kernel_rfl)

theorem au_thinBegun1_14  :
    AC Try.prog 117 0 ([.agg #[.int .i64 0, .int .i64 0], .agg #[.int .i64 5, .int .i64 1]]) [] (.agg #[.int .i64 5, .int .i64 1]) [] := by
  refine ac_in Try.func117 (fun w0 W pin => ?_)
  refine aw_p 3 (
    .a 3 1 <| .nil _ _) ?_
  refine aw_d 7 (
    .a 1 4 <| .p (does_c (au_thinBegun1_5)) <| .a 1 4 <| .p (does_c (au_thinBegun1_8)) <| .a 2 4 <| .nil _ _) ?_
  refine aw_p 15 (
    .a 12 4 <| .nil _ _) ?_
  refine aw_rt ?_
  exact en_ret [.agg #[.int .i64 5, .int .i64 1]] (by kernel_rfl)

theorem au_thinBegun1_15  :
    AC Try.prog 115 0 ([.agg #[.int .i64 0, .int .i64 0], .agg #[.int .i64 10, .int .i64 0], .agg #[.int .i64 5, .int .i64 1]]) [] (.int .i64 50) [] := by
  refine ac_in Try.func115 (fun w0 W pin => ?_)
  refine aw_p 3 (
    .a 4 1 <| .nil _ _) ?_
  refine aw_d 7 (
    .a 2 4 <| .p (does_c (au_thinBegun1_11)) <| .a 2 4 <| .p (does_c (au_thinBegun1_14)) <| .a 4 4 <| .nil _ _) ?_
  refine aw_p 15 (
    .a 12 6 <| .nil _ _) ?_
  refine aw_w [(6, .int .i64 50)] [] ?_
  refine aw_rt ?_
  exact en_ret [.int .i64 50] (by kernel_rfl)

theorem au_thinBegun1_16  :
    AC Try.prog 80 0 ([.agg #[.int .i64 0, .int .i64 0], .agg #[.int .i64 10, .int .i64 0], .agg #[.int .i64 5, .int .i64 1]]) [] (.int .i64 10) [] := by
  refine ac_in Try.func80 (fun w0 W pin => ?_)
  refine aw_p 3 (
    .a 4 1 <| .nil _ _) ?_
  refine aw_d 7 (
    .a 2 4 <| .p (does_c (au_thinBegun1_11)) <| .a 2 4 <| .p (does_c (au_thinBegun1_14)) <| .a 4 4 <| .nil _ _) ?_
  refine aw_p 15 (
    .a 12 6 <| .nil _ _) ?_
  refine aw_w [(6, .int .i64 10)] [] ?_
  refine aw_rt ?_
  exact en_ret [.int .i64 10] (by kernel_rfl)

theorem au_thinBegun1_17  :
    AC Try.prog 120 0 ([.int .u64 10, .int .u64 10]) [] (.tuple #[.int .u64 0, .int .u64 100]) [] := by
  refine ac_in Try.func120 (fun w0 W pin => ?_)
  refine aw_p 3 (
    .a 2 1 <| .nil _ _) ?_
  refine aw_p 7 (
    .a 3 1 <| .nil _ _) ?_
  refine aw_p 15 (
    .a 3 1 <| .nil _ _) ?_
  refine aw_p 31 (
    .a 3 1 <| .nil _ _) ?_
  refine aw_p 63 (
    .a 3 1 <| .nil _ _) ?_
  refine aw_p 127 (
    .a 4 1 <| .nil _ _) ?_
  refine aw_p 255 (
    .a 7 1 <| .nil _ _) ?_
  refine aw_w [(0, .int .u64 10), (1, .int .u64 10), (4, .int .u64 0), (5, .int .u64 0), (6, .int .u64 10), (7, .int .u64 0), (9, .int .u64 0), (11, .int .u64 0)] [] ?_
  refine aw_p 511 (
    .a 3 1 <| .nil _ _) ?_
  refine aw_p 1023 (
    .a 3 1 <| .nil _ _) ?_
  refine aw_p 2047 (
    .a 6 1 <| .nil _ _) ?_
  refine aw_p 4095 (
    .a 9 1 <| .nil _ _) ?_
  refine aw_p 8191 (
    .a 4 1 <| .nil _ _) ?_
  refine aw_w [(4, .int .u64 0), (5, .int .u64 100)] [] ?_
  refine aw_rt ?_
  exact en_ret [.int .u64 0, .int .u64 100] (by kernel_rfl)

theorem au_thinBegun1_18  :
    AC Try.prog 92 0 ([.int .i64 10, .int .i64 10]) [] (.agg #[.int .i64 0, .int .u64 100]) [] := by
  refine ac_in Try.func92 (fun w0 W pin => ?_)
  refine aw_p 3 (
    .a 1 1 <| .nil _ _) ?_
  refine aw_p 7 (
    .a 4 2 <| .p (does_c (au_thinBegun1_17)) <| .a 5 2 <| .nil _ _) ?_
  refine aw_sq 14 15 ?_
  refine aw_p 29 (
    .a 2 2 <| .nil _ _) ?_
  refine aw_fl 59 ?_
  refine aw_sk ?_
  refine then_normal ?_
  refine aw_sq 30 31 ?_
  refine aw_p 61 (
    .a 2 2 <| .nil _ _) ?_
  refine aw_fl 123 ?_
  refine aw_sk ?_
  refine then_normal ?_
  refine aw_p 63 (
    .a 5 2 <| .nil _ _) ?_
  refine aw_rt ?_
  exact en_ret [.agg #[.int .i64 0, .int .u64 100]] (by kernel_rfl)

theorem au_thinBegun1_19  :
    AC Try.prog 94 0 ([.agg #[.int .i64 5, .int .i64 1], .agg #[.int .i64 0, .int .i64 0], .agg #[.int .i64 10, .int .i64 0]]) [] (.tuple #[.agg #[.int .i64 0, .int .u64 100], .int .i64 100]) [] := by
  refine ac_in Try.func94 (fun w0 W pin => ?_)
  refine aw_p 3 (
    .a 5 1 <| .nil _ _) ?_
  refine aw_d 7 (
    .a 2 5 <| .p (does_c (au_thinBegun1_13)) <| .a 3 5 <| .p (does_c (au_thinBegun1_15)) <| .a 2 5 <| .nil _ _) ?_
  refine aw_sq 14 15 ?_
  refine aw_bl 0 29 ?_
  refine aw_p 59 (
    .a 3 5 <| .nil _ _) ?_
  refine aw_fl 119 ?_
  refine aw_p 239 (
    .a 4 5 <| .nil _ _) ?_
  refine aw_fl 479 ?_
  refine aw_sk ?_
  refine block_normal ?_
  refine then_normal ?_
  refine aw_p 31 (
    .a 3 5 <| .p (does_c (au_thinBegun1_16)) <| .a 1 5 <| .nil _ _) ?_
  refine aw_w [(6, .pointer (some ⟨4, 0, none⟩)), (7, .int .i64 0), (8, .int .i64 100), (10, .int .i64 10)] [(4, ⟨[.int .i64 0, .int .u64 0], 90, true, 2⟩)] ?_
  refine aw_p 63 (
    .a 2 5 <| .p (does_c (au_thinBegun1_18)) <| .a 3 5 <| .nil _ _) ?_
  refine aw_rt ?_
  exact en_ret [.agg #[.int .i64 0, .int .u64 100], .int .i64 100] (by kernel_rfl)

theorem au_thinBegun1_20  :
    AC Try.prog 120 0 ([.int .u64 1, .int .u64 100]) [] (.tuple #[.int .u64 0, .int .u64 100]) [] := by
  refine ac_in Try.func120 (fun w0 W pin => ?_)
  refine aw_p 3 (
    .a 2 1 <| .nil _ _) ?_
  refine aw_p 7 (
    .a 3 1 <| .nil _ _) ?_
  refine aw_p 15 (
    .a 3 1 <| .nil _ _) ?_
  refine aw_p 31 (
    .a 3 1 <| .nil _ _) ?_
  refine aw_p 63 (
    .a 3 1 <| .nil _ _) ?_
  refine aw_p 127 (
    .a 4 1 <| .nil _ _) ?_
  refine aw_p 255 (
    .a 7 1 <| .nil _ _) ?_
  refine aw_w [(0, .int .u64 1), (1, .int .u64 100), (4, .int .u64 0), (5, .int .u64 0), (6, .int .u64 1), (7, .int .u64 0), (9, .int .u64 0), (11, .int .u64 0)] [] ?_
  refine aw_p 511 (
    .a 3 1 <| .nil _ _) ?_
  refine aw_p 1023 (
    .a 3 1 <| .nil _ _) ?_
  refine aw_p 2047 (
    .a 6 1 <| .nil _ _) ?_
  refine aw_p 4095 (
    .a 9 1 <| .nil _ _) ?_
  refine aw_p 8191 (
    .a 4 1 <| .nil _ _) ?_
  refine aw_w [(4, .int .u64 0), (5, .int .u64 100)] [] ?_
  refine aw_rt ?_
  exact en_ret [.int .u64 0, .int .u64 100] (by kernel_rfl)

theorem au_thinBegun1_21  :
    AC Try.prog 92 0 ([.int .i64 1, .int .i64 100]) [] (.agg #[.int .i64 0, .int .u64 100]) [] := by
  refine ac_in Try.func92 (fun w0 W pin => ?_)
  refine aw_p 3 (
    .a 1 1 <| .nil _ _) ?_
  refine aw_p 7 (
    .a 4 2 <| .p (does_c (au_thinBegun1_20)) <| .a 5 2 <| .nil _ _) ?_
  refine aw_sq 14 15 ?_
  refine aw_p 29 (
    .a 2 2 <| .nil _ _) ?_
  refine aw_fl 59 ?_
  refine aw_sk ?_
  refine then_normal ?_
  refine aw_sq 30 31 ?_
  refine aw_p 61 (
    .a 2 2 <| .nil _ _) ?_
  refine aw_fl 123 ?_
  refine aw_sk ?_
  refine then_normal ?_
  refine aw_p 63 (
    .a 5 2 <| .nil _ _) ?_
  refine aw_rt ?_
  exact en_ret [.agg #[.int .i64 0, .int .u64 100]] (by kernel_rfl)

theorem au_thinBegun1_22  :
    AC Try.prog 95 0 ([.agg #[.int .i64 0, .int .u64 100], .agg #[.int .i64 0, .int .u64 100]]) [] (.int .i64 0) [] := by
  refine ac_in Try.func95 (fun w0 W pin => ?_)
  refine aw_p 3 (
    .a 3 1 <| .nil _ _) ?_
  refine aw_sq 6 7 ?_
  refine aw_bl 0 13 ?_
  refine aw_p 27 (
    .a 2 3 <| .p (does_e true ((show ((0 == 0) && ((100 == 100) && true)) = true from by decide))) <| .a 1 3 <| .nil _ _) ?_
  refine aw_tr 54 ?_
  refine aw_p 109 (
    .a 1 3 <| .nil _ _) ?_
  refine aw_rt ?_
  refine block_ret ?_
  refine then_ret ?_
  exact en_ret [.int .i64 0] (by kernel_rfl)

theorem au_thinBegun1_23  :
    AC Try.prog 51 0 ([.agg #[.int .i64 5, .int .i64 1], .agg #[.int .i64 0, .int .i64 0], .agg #[.int .i64 10, .int .i64 0], .int .i64 1]) [] (.bool true) [] := by
  refine ac_in Try.func51 (fun w0 W pin => ?_)
  refine aw_p 3 (
    .a 4 1 <| .nil _ _) ?_
  refine aw_p 7 (
    .a 3 4 <| .nil _ _) ?_
  refine aw_sq 14 15 ?_
  refine aw_p 29 (
    .a 2 4 <| .nil _ _) ?_
  refine aw_fl 59 ?_
  refine aw_sk ?_
  refine then_normal ?_
  refine aw_p 31 (
    .a 3 4 <| .p (does_c (au_thinBegun1_19)) <| .a 6 4 <| .nil _ _) ?_
  refine aw_d 63 (
    .a 5 5 <| .p (does_c (au_thinBegun1_21)) <| .p (does_c (au_thinBegun1_22)) <| .a 2 5 <| .nil _ _) ?_
  refine aw_w [(8, .bool true)] [] ?_
  refine aw_rt ?_
  exact en_ret [.bool true] (by kernel_rfl)

theorem au_thinBegun1_24  :
    AC Try.prog 57 2 ([.slice (some ⟨0, 0, none⟩) 3 0, .slice (some ⟨1, 0, none⟩) 3 0, .int .i64 0, .int .i64 2, .int .i64 1]) [(0, ⟨[.int .i64 0, .int .i64 0, .int .i64 5, .int .i64 1, .int .i64 10, .int .i64 0], 29, true, 2⟩), (1, ⟨[.bool true, .bool false, .bool true], 4, true, 1⟩)] (.tuple #[]) [(0, ⟨[.int .i64 0, .int .i64 0, .int .i64 5, .int .i64 1, .int .i64 10, .int .i64 0], 29, true, 2⟩), (1, ⟨[.bool true, .bool false, .bool true], 4, true, 1⟩)] := by
  refine ac_in Try.func57 (fun w0 W pin => ?_)
  refine aw_p 3 (
    .a 1 2 <| .nil _ _) ?_
  refine aw_sq 6 7 ?_
  refine aw_p 13 (
    .a 3 2 <| .nil _ _) ?_
  refine aw_bl 0 27 ?_
  refine aw_lp 55 ?_
  refine al_round ?_
  refine aw_sq 110 111 ?_
  refine aw_p 221 (
    .a 3 2 <| .nil _ _) ?_
  refine aw_tr 442 ?_
  refine aw_sk ?_
  refine then_normal ?_
  refine aw_sq 222 223 ?_
  refine aw_bl 1 445 ?_
  refine aw_d 891 (
    .a 14 2 <| .p (does_c (au_thinBegun1_23)) <| .a 24 2 <| .nil _ _) ?_
  refine aw_w [(0, .slice (some ⟨0, 0, none⟩) 3 0), (1, .slice (some ⟨1, 0, none⟩) 3 0), (2, .int .i64 0), (3, .int .i64 2), (4, .int .i64 1), (10, .int .i64 (-1)), (11, .int .i64 1), (16, .bool true), (57, .bool false)] [(0, ⟨[.int .i64 0, .int .i64 0, .int .i64 5, .int .i64 1, .int .i64 10, .int .i64 0], 29, true, 2⟩), (1, ⟨[.bool true, .bool false, .bool true], 4, true, 1⟩)] ?_
  refine aw_fl 1783 ?_
  refine aw_sk ?_
  refine block_normal ?_
  refine then_normal ?_
  refine aw_p1 (
    .a 3 2 <| .nil _ _) ?_
  refine then_normal ?_
  refine al_round ?_
  refine aw_sq 110 111 ?_
  refine aw_p 221 (
    .a 3 2 <| .nil _ _) ?_
  refine aw_fl 443 ?_
  refine aw_ex 0 ?_
  refine then_exit ?_
  refine then_exit ?_
  refine block_exit ?_
  refine then_normal ?_
  refine aw_sq 14 15 ?_
  refine aw_p 29 (
    .a 2 2 <| .nil _ _) ?_
  refine aw_tr 58 ?_
  refine aw_rt ?_
  refine then_ret ?_
  exact en_ret [] (by kernel_rfl)

theorem au_thinBegun1_25  :
    AC Try.prog 16 1 ([.slice (some ⟨0, 0, none⟩) 3 0, .int .i64 1]) [(0, ⟨[.int .i64 0, .int .i64 0, .int .i64 5, .int .i64 1, .int .i64 10, .int .i64 0], 29, true, 2⟩)] (.slice (some ⟨1, 0, none⟩) 2 0) [(0, ⟨[.int .i64 0, .int .i64 0, .int .i64 5, .int .i64 1, .int .i64 10, .int .i64 0], 29, true, 2⟩), (1, ⟨[.int .i64 0, .int .i64 0, .int .i64 10, .int .i64 0], 29, true, 2⟩)] := by
  refine ac_in Try.func16 (fun w0 W pin => ?_)
  refine aw_p 3 (
    .a 1 1 <| .nil _ _) ?_
  refine aw_p 7 (
    .a 2 1 <| .p (does_mk (kl := .i64) (kc := .i64) (n' := 0) (c' := 3) 1 29 2 16 0 3 (.agg #[.int .i64 0, .int .i64 0]) [] (by kernel_rfl) (by kernel_rfl) (by kernel_rfl) (by kernel_rfl) (by decide) (by decide) (by decide) (by decide) (by decide)) <| .a 1 2 <| .nil _ _) ?_
  refine aw_sq 14 15 ?_
  refine aw_p 29 (
    .a 3 2 <| .nil _ _) ?_
  refine aw_bl 0 59 ?_
  refine aw_lp 119 ?_
  refine al_round ?_
  refine aw_p 239 (
    .a 1 2 <| .nil _ _) ?_
  refine aw_sq 478 479 ?_
  refine aw_tr 956 ?_
  refine aw_sk ?_
  refine then_normal ?_
  refine aw_sq 958 959 ?_
  refine aw_bl 1 1917 ?_
  refine aw_p 3835 (
    .a 4 2 <| .nil _ _) ?_
  refine aw_p1 (
    .a 2 3 <| .p (does_c (au_thinBegun1_5)) <| .a 1 3 <| .p (does_ap 4) <| .a 1 5 <| .nil _ _) ?_
  refine block_normal ?_
  refine then_normal ?_
  refine aw_p1 (
    .a 2 5 <| .nil _ _) ?_
  refine then_normal ?_
  refine al_round ?_
  refine aw_p 239 (
    .a 1 5 <| .nil _ _) ?_
  refine aw_sq 478 479 ?_
  refine aw_tr 956 ?_
  refine aw_sk ?_
  refine then_normal ?_
  refine aw_sq 958 959 ?_
  refine aw_bl 1 1917 ?_
  refine aw_p 3835 (
    .a 4 5 <| .nil _ _) ?_
  refine aw_w [(1, .int .i64 1), (4, .slice none 0 0), (5, .slice (some ⟨4, 0, none⟩) 1 0), (7, .pointer (some ⟨5, 0, none⟩)), (15, .slice (some ⟨0, 0, none⟩) 3 0), (16, .int .i64 3), (17, .int .i64 1), (18, .bool true)] [(0, ⟨[.int .i64 0, .int .i64 0, .int .i64 5, .int .i64 1, .int .i64 10, .int .i64 0], 29, true, 2⟩), (4, ⟨[.int .i64 0, .int .i64 0], 29, true, 2⟩), (5, ⟨[.int .i64 5, .int .i64 1], 29, true, 2⟩)] ?_
  refine aw_p1 (
    .a 2 6 <| .p (does_c (au_thinBegun1_8)) <| .a 1 6 <| .p (does_ap 7) <| .a 1 8 <| .nil _ _) ?_
  refine block_normal ?_
  refine then_normal ?_
  refine aw_p1 (
    .a 2 8 <| .nil _ _) ?_
  refine then_normal ?_
  refine al_round ?_
  refine aw_p 239 (
    .a 1 8 <| .nil _ _) ?_
  refine aw_sq 478 479 ?_
  refine aw_tr 956 ?_
  refine aw_sk ?_
  refine then_normal ?_
  refine aw_sq 958 959 ?_
  refine aw_bl 1 1917 ?_
  refine aw_p 3835 (
    .a 4 8 <| .nil _ _) ?_
  refine aw_p1 (
    .a 2 9 <| .p (does_c (au_thinBegun1_10)) <| .a 1 9 <| .p (does_ap 10) <| .a 1 11 <| .nil _ _) ?_
  refine block_normal ?_
  refine then_normal ?_
  refine aw_p1 (
    .a 2 11 <| .nil _ _) ?_
  refine then_normal ?_
  refine al_round ?_
  refine aw_p 239 (
    .a 1 11 <| .nil _ _) ?_
  refine aw_sq 478 479 ?_
  refine aw_fl 957 ?_
  refine aw_ex 0 ?_
  refine then_exit ?_
  refine then_exit ?_
  refine block_exit ?_
  refine then_normal ?_
  refine aw_sq 30 31 ?_
  refine aw_p 61 (
    .a 3 11 <| .nil _ _) ?_
  refine aw_w [(1, .int .i64 1), (4, .slice none 0 0), (5, .slice (some ⟨10, 0, none⟩) 3 0), (29, .bool false)] [(0, ⟨[.int .i64 0, .int .i64 0, .int .i64 5, .int .i64 1, .int .i64 10, .int .i64 0], 29, true, 2⟩), (10, ⟨[.int .i64 0, .int .i64 0, .int .i64 5, .int .i64 1, .int .i64 10, .int .i64 0], 29, true, 2⟩)] ?_
  refine aw_fl 123 ?_
  refine aw_sk ?_
  refine then_normal ?_
  refine aw_p 63 (
    .a 2 11 <| .p (does_mk (kl := .i64) (kc := .i64) (n' := 3) (c' := 3) 11 4 1 1 3 3 (.bool false) [.bool false, .bool false, .bool false] (by kernel_rfl) (by kernel_rfl) (by kernel_rfl) (by kernel_rfl) (by decide) (by decide) (by decide) (by decide) (by decide)) <| .a 1 12 <| .nil _ _) ?_
  refine aw_p 127 (
    .a 9 12 <| .nil _ _) ?_
  refine aw_p 255 (
    .a 6 12 <| .p (does_k [10, 11] (au_thinBegun1_24)) <| .nil _ _) ?_
  refine aw_p 511 (
    .a 2 12 <| .p (does_mk (kl := .i64) (kc := .i64) (n' := 0) (c' := 3) 12 29 2 16 0 3 (.agg #[.int .i64 0, .int .i64 0]) [] (by kernel_rfl) (by kernel_rfl) (by kernel_rfl) (by kernel_rfl) (by decide) (by decide) (by decide) (by decide) (by decide)) <| .a 1 13 <| .nil _ _) ?_
  refine aw_sq 1022 1023 ?_
  refine aw_p 2045 (
    .a 3 13 <| .nil _ _) ?_
  refine aw_w [(4, .slice none 0 0), (8, .slice (some ⟨11, 0, none⟩) 3 0), (9, .slice (some ⟨12, 0, none⟩) 0 0), (51, .slice (some ⟨10, 0, none⟩) 3 0), (52, .int .i64 3), (53, .int .i64 0)] [(0, ⟨[.int .i64 0, .int .i64 0, .int .i64 5, .int .i64 1, .int .i64 10, .int .i64 0], 29, true, 2⟩), (10, ⟨[.int .i64 0, .int .i64 0, .int .i64 5, .int .i64 1, .int .i64 10, .int .i64 0], 29, true, 2⟩), (11, ⟨[.bool true, .bool false, .bool true], 4, true, 1⟩), (12, ⟨[], 29, true, 2⟩)] ?_
  refine aw_bl 2 4091 ?_
  refine aw_lp 8183 ?_
  refine al_round ?_
  refine aw_p 16367 (
    .a 1 13 <| .nil _ _) ?_
  refine aw_sq 32734 32735 ?_
  refine aw_tr 65468 ?_
  refine aw_sk ?_
  refine then_normal ?_
  refine aw_sq 65470 65471 ?_
  refine aw_bl 3 130941 ?_
  refine aw_p 261883 (
    .a 6 13 <| .nil _ _) ?_
  refine aw_p 523767 (
    .a 4 14 <| .nil _ _) ?_
  refine aw_tr 1047534 ?_
  refine aw_p1 (
    .a 3 14 <| .p (does_ap 15) <| .a 1 16 <| .nil _ _) ?_
  refine block_normal ?_
  refine then_normal ?_
  refine aw_p1 (
    .a 2 16 <| .nil _ _) ?_
  refine then_normal ?_
  refine al_round ?_
  refine aw_p 16367 (
    .a 1 16 <| .nil _ _) ?_
  refine aw_sq 32734 32735 ?_
  refine aw_tr 65468 ?_
  refine aw_sk ?_
  refine then_normal ?_
  refine aw_sq 65470 65471 ?_
  refine aw_bl 3 130941 ?_
  refine aw_p 261883 (
    .a 6 16 <| .nil _ _) ?_
  refine aw_w [(4, .slice none 0 0), (8, .slice (some ⟨11, 0, none⟩) 3 0), (9, .slice (some ⟨15, 0, none⟩) 1 0), (10, .int .i64 1), (11, .pointer (some ⟨16, 0, none⟩)), (51, .slice (some ⟨10, 0, none⟩) 3 0), (52, .int .i64 3), (53, .int .i64 1), (54, .bool true), (61, .bool true)] [(0, ⟨[.int .i64 0, .int .i64 0, .int .i64 5, .int .i64 1, .int .i64 10, .int .i64 0], 29, true, 2⟩), (10, ⟨[.int .i64 0, .int .i64 0, .int .i64 5, .int .i64 1, .int .i64 10, .int .i64 0], 29, true, 2⟩), (11, ⟨[.bool true, .bool false, .bool true], 4, true, 1⟩), (15, ⟨[.int .i64 0, .int .i64 0], 29, true, 2⟩), (16, ⟨[.int .i64 5, .int .i64 1], 29, true, 2⟩)] ?_
  refine aw_p 523767 (
    .a 4 17 <| .nil _ _) ?_
  refine aw_fl 1047535 ?_
  refine aw_sk ?_
  refine block_normal ?_
  refine then_normal ?_
  refine aw_p1 (
    .a 2 17 <| .nil _ _) ?_
  refine then_normal ?_
  refine al_round ?_
  refine aw_p 16367 (
    .a 1 17 <| .nil _ _) ?_
  refine aw_sq 32734 32735 ?_
  refine aw_tr 65468 ?_
  refine aw_sk ?_
  refine then_normal ?_
  refine aw_sq 65470 65471 ?_
  refine aw_bl 3 130941 ?_
  refine aw_p 261883 (
    .a 6 17 <| .nil _ _) ?_
  refine aw_p 523767 (
    .a 4 18 <| .nil _ _) ?_
  refine aw_tr 1047534 ?_
  refine aw_p1 (
    .a 3 18 <| .p (does_ap 19) <| .a 1 20 <| .nil _ _) ?_
  refine block_normal ?_
  refine then_normal ?_
  refine aw_p1 (
    .a 2 20 <| .nil _ _) ?_
  refine then_normal ?_
  refine al_round ?_
  refine aw_p 16367 (
    .a 1 20 <| .nil _ _) ?_
  refine aw_w [(4, .slice none 0 0), (8, .slice (some ⟨11, 0, none⟩) 3 0), (9, .slice (some ⟨19, 0, none⟩) 2 0), (10, .int .i64 2), (11, .pointer (some ⟨17, 0, none⟩)), (51, .slice (some ⟨10, 0, none⟩) 3 0), (52, .int .i64 3), (53, .int .i64 3), (54, .bool false), (61, .bool true)] [(0, ⟨[.int .i64 0, .int .i64 0, .int .i64 5, .int .i64 1, .int .i64 10, .int .i64 0], 29, true, 2⟩), (10, ⟨[.int .i64 0, .int .i64 0, .int .i64 5, .int .i64 1, .int .i64 10, .int .i64 0], 29, true, 2⟩), (11, ⟨[.bool true, .bool false, .bool true], 4, true, 1⟩), (17, ⟨[.int .i64 10, .int .i64 0], 29, true, 2⟩), (19, ⟨[.int .i64 0, .int .i64 0, .int .i64 10, .int .i64 0], 29, true, 2⟩)] ?_
  refine aw_sq 32734 32735 ?_
  refine aw_fl 65469 ?_
  refine aw_ex 2 ?_
  refine then_exit ?_
  refine then_exit ?_
  refine block_exit ?_
  refine then_normal ?_
  refine aw_p 2047 (
    .a 2 20 <| .nil _ _) ?_
  refine aw_r [(1, 19)] [(4, .slice (some ⟨19, 0, none⟩) 2 0)] [(0, ⟨[.int .i64 0, .int .i64 0, .int .i64 5, .int .i64 1, .int .i64 10, .int .i64 0], 29, true, 2⟩), (19, ⟨[.int .i64 0, .int .i64 0, .int .i64 10, .int .i64 0], 29, true, 2⟩)] [(4, .slice (some ⟨1, 0, none⟩) 2 0)] [(0, ⟨[.int .i64 0, .int .i64 0, .int .i64 5, .int .i64 1, .int .i64 10, .int .i64 0], 29, true, 2⟩), (1, ⟨[.int .i64 0, .int .i64 0, .int .i64 10, .int .i64 0], 29, true, 2⟩)] ?_ ⟨rfl, (.slice _ _ _ _ _ rfl), trivial⟩ ⟨rfl, ⟨rfl, rfl, rfl, (.flats (by kernel_rfl))⟩, rfl, ⟨rfl, rfl, rfl, (.flats (by kernel_rfl))⟩, trivial⟩
  refine aw_rt ?_
  exact en_ret [.slice (some ⟨1, 0, none⟩) 2 0] (by kernel_rfl)

theorem au_thinBegun1_26  :
    AC Try.prog 17 2 ([.slice (some ⟨0, 0, none⟩) 2 0, .slice (some ⟨1, 0, none⟩) 2 0]) [(0, ⟨[.int .i64 0, .int .i64 0, .int .i64 10, .int .i64 0], 29, true, 2⟩), (1, ⟨[.int .i64 0, .int .i64 0, .int .i64 10, .int .i64 0], 29, true, 2⟩)] (.bool true) [(0, ⟨[.int .i64 0, .int .i64 0, .int .i64 10, .int .i64 0], 29, true, 2⟩), (1, ⟨[.int .i64 0, .int .i64 0, .int .i64 10, .int .i64 0], 29, true, 2⟩)] := by
  refine ac_in Try.func17 (fun w0 W pin => ?_)
  refine aw_p 3 (
    .a 1 2 <| .nil _ _) ?_
  refine aw_sq 6 7 ?_
  refine aw_p 13 (
    .a 5 2 <| .nil _ _) ?_
  refine aw_fl 27 ?_
  refine aw_sk ?_
  refine then_normal ?_
  refine aw_sq 14 15 ?_
  refine aw_p 29 (
    .a 3 2 <| .nil _ _) ?_
  refine aw_bl 0 59 ?_
  refine aw_lp 119 ?_
  refine al_round ?_
  refine aw_p 239 (
    .a 1 2 <| .nil _ _) ?_
  refine aw_sq 478 479 ?_
  refine aw_tr 956 ?_
  refine aw_sk ?_
  refine then_normal ?_
  refine aw_sq 958 959 ?_
  refine aw_bl 1 1917 ?_
  refine aw_p 3835 (
    .a 2 2 <| .nil _ _) ?_
  refine aw_d 7671 (
    .a 8 2 <| .p (does_e false ((show (!((0 == 0) && ((0 == 0) && true))) = false from by decide))) <| .nil _ _) ?_
  refine aw_fl 15343 ?_
  refine aw_sk ?_
  refine block_normal ?_
  refine then_normal ?_
  refine aw_p1 (
    .a 2 2 <| .nil _ _) ?_
  refine then_normal ?_
  refine al_round ?_
  refine aw_p 239 (
    .a 1 2 <| .nil _ _) ?_
  refine aw_sq 478 479 ?_
  refine aw_tr 956 ?_
  refine aw_sk ?_
  refine then_normal ?_
  refine aw_sq 958 959 ?_
  refine aw_bl 1 1917 ?_
  refine aw_p 3835 (
    .a 2 2 <| .nil _ _) ?_
  refine aw_w [(0, .slice (some ⟨0, 0, none⟩) 2 0), (1, .slice (some ⟨1, 0, none⟩) 2 0), (4, .bool false), (5, .int .i64 1), (12, .int .i64 2), (13, .int .i64 1), (14, .bool true), (24, .bool false)] [(0, ⟨[.int .i64 0, .int .i64 0, .int .i64 10, .int .i64 0], 29, true, 2⟩), (1, ⟨[.int .i64 0, .int .i64 0, .int .i64 10, .int .i64 0], 29, true, 2⟩)] ?_
  refine aw_d 7671 (
    .a 8 2 <| .p (does_e false ((show (!((10 == 10) && ((0 == 0) && true))) = false from by decide))) <| .nil _ _) ?_
  refine aw_fl 15343 ?_
  refine aw_sk ?_
  refine block_normal ?_
  refine then_normal ?_
  refine aw_p1 (
    .a 2 2 <| .nil _ _) ?_
  refine then_normal ?_
  refine al_round ?_
  refine aw_p 239 (
    .a 1 2 <| .nil _ _) ?_
  refine aw_sq 478 479 ?_
  refine aw_fl 957 ?_
  refine aw_ex 0 ?_
  refine then_exit ?_
  refine then_exit ?_
  refine block_exit ?_
  refine then_normal ?_
  refine aw_p 31 (
    .a 1 2 <| .nil _ _) ?_
  refine aw_rt ?_
  exact en_ret [.bool true] (by kernel_rfl)

theorem thinBegun1_ok  :
    AC Try.prog 23 0 ([]) [] (.bool true) [] := by
  refine ac_in Try.func23 (fun w0 W pin => ?_)
  refine aw_p 3 (
    .a 1 1 <| .nil _ _) ?_
  refine aw_p 7 (
    .p (does_c (au_thinBegun1_1)) <| .p (does_c (au_thinBegun1_2)) <| .p (does_c (au_thinBegun1_3)) <| .a 1 1 <| .p (does_k [1, 2] (au_thinBegun1_25)) <| .p (does_c (au_thinBegun1_1)) <| .p (does_c (au_thinBegun1_3)) <| .a 1 3 <| .p (does_k [2, 3] (au_thinBegun1_26)) <| .a 1 4 <| .nil _ _) ?_
  refine aw_rt ?_
  exact en_ret [.bool true] (by kernel_rfl)

end Go.Proofs.Ytadifmimefmcnaa.Am
