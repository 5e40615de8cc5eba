/-
  What is asked ahead of the laws of numbers of 128 bits: closed walks.
-/
import Derived.Test.YtjimiomokjfmiaaDoorProg
import Derived.Test.YtjimiomokjfmiaaDoorAm16
import Derived.Test.YtjimiomokjfmiaaDoorWd3
import Derived.Test.YtjimiomokjfmiaaDoorAm26
namespace Go.Proofs.YtjimiomokjfmiaaDoor.Am
open Go Go.Proofs
set_option maxRecDepth 100000
set_option maxHeartbeats 4000000
set_option linter.unusedVariables false
set_option linter.unusedSimpArgs false

theorem wtext12_ok  :
    AC Tryd.prog 8 0 ([.agg #[.int .i64 (-1), .int .u64 18446744073709551604]]) [] (.string (ByteArray.mk #[45, 49, 50])) [] := by
  refine ac_in Tryd.func8 (fun w0 W pin => ?_)
  refine aw_p 3 (
    .a 2 1 <| .nil _ _) ?_
  refine aw_p 7 (
    .a 1 2 <| .p (does_c (wmag_ok (-12) (by decide) (by decide))) <| .a 5 2 <| .nil _ _) ?_
  refine aw_p 15 (
    .a 1 2 <| .nil _ _) ?_
  refine aw_sq 30 31 ?_
  refine aw_bl 0 61 ?_
  refine aw_lp 123 ?_
  refine al_round ?_
  refine aw_sq 246 247 ?_
  refine aw_p 493 (
    .a 6 2 <| .nil _ _) ?_
  refine aw_tr 986 ?_
  refine aw_sk ?_
  refine then_normal ?_
  refine aw_bl 1 495 ?_
  refine aw_p 991 (
    .a 1 2 <| .nil _ _) ?_
  refine aw_p 1983 (
    .a 6 2 <| .nil _ _) ?_
  refine aw_p 3967 (
    .a 2 2 <| .p (does_c (div64_ok 0 12 10 (by decide) (by decide) (by decide) (by decide) (by decide))) <| .a 5 2 <| .nil _ _) ?_
  refine aw_w [(1, .pointer (some ⟨1, 0, none⟩)), (2, .string (ByteArray.mk #[])), (3, .int .u64 0), (4, .int .u64 1), (5, .string (ByteArray.mk #[])), (6, .int .u64 2), (17, .bool true)] [(1, ⟨[.int .i64 (-1), .int .u64 18446744073709551604], 24, true, 2⟩)] ?_
  refine aw_p1 (
    .a 3 2 <| .p (does_pure (v := .string (ByteArray.mk #[50])) (by kernel_rfl) (fun w => by kernel_rfl) (by kernel_rfl)) <| .a 1 2 <| .p (does_pure (v := .string (ByteArray.mk #[50])) (by kernel_rfl) (fun w => by kernel_rfl) (by kernel_rfl)) <| .a 1 2 <| .nil _ _) ?_
  refine block_normal ?_
  refine then_normal ?_
  refine al_round ?_
  refine aw_sq 246 247 ?_
  refine aw_p 493 (
    .a 6 2 <| .nil _ _) ?_
  refine aw_tr 986 ?_
  refine aw_sk ?_
  refine then_normal ?_
  refine aw_bl 1 495 ?_
  refine aw_p 991 (
    .a 1 2 <| .nil _ _) ?_
  refine aw_p 1983 (
    .a 6 2 <| .nil _ _) ?_
  refine aw_p 3967 (
    .a 2 2 <| .p (does_c (div64_ok 0 1 10 (by decide) (by decide) (by decide) (by decide) (by decide))) <| .a 5 2 <| .nil _ _) ?_
  refine aw_w [(1, .pointer (some ⟨1, 0, none⟩)), (2, .string (ByteArray.mk #[])), (3, .int .u64 0), (4, .int .u64 0), (5, .string (ByteArray.mk #[50])), (6, .int .u64 1), (17, .bool true)] [(1, ⟨[.int .i64 (-1), .int .u64 18446744073709551604], 24, true, 2⟩)] ?_
  refine aw_p1 (
    .a 3 2 <| .p (does_pure (v := .string (ByteArray.mk #[49])) (by kernel_rfl) (fun w => by kernel_rfl) (by kernel_rfl)) <| .a 1 2 <| .p (does_pure (v := .string (ByteArray.mk #[49, 50])) (by kernel_rfl) (fun w => by kernel_rfl) (by kernel_rfl)) <| .a 1 2 <| .nil _ _) ?_
  refine block_normal ?_
  refine then_normal ?_
  refine al_round ?_
  refine aw_sq 246 247 ?_
  refine aw_p 493 (
    .a 6 2 <| .nil _ _) ?_
  refine aw_fl 987 ?_
  refine aw_ex 0 ?_
  refine then_exit ?_
  refine then_exit ?_
  refine block_exit ?_
  refine then_normal ?_
  refine aw_sq 62 63 ?_
  refine aw_bl 2 125 ?_
  refine aw_p 251 (
    .a 1 2 <| .p (does_pure (v := .bool false) (by kernel_rfl) (fun w => by kernel_rfl) (by kernel_rfl)) <| .a 1 2 <| .nil _ _) ?_
  refine aw_fl 503 ?_
  refine aw_p 1007 (
    .a 4 2 <| .nil _ _) ?_
  refine aw_tr 2014 ?_
  refine aw_p 4029 (
    .a 1 2 <| .p (does_pure (v := .string (ByteArray.mk #[45, 49, 50])) (by kernel_rfl) (fun w => by kernel_rfl) (by kernel_rfl)) <| .a 1 2 <| .nil _ _) ?_
  refine aw_rt ?_
  refine block_ret ?_
  refine then_ret ?_
  exact en_ret [.string (ByteArray.mk #[45, 49, 50])] (by kernel_rfl)

theorem terrlaw1_wideBegun_ok  :
    AC Tryd.prog 7 0 ([]) [] (.bool true) [] := by
  refine ac_in Tryd.func7 (fun w0 W pin => ?_)
  refine aw_p 3 (
    .a 1 1 <| .nil _ _) ?_
  refine aw_p 7 (
    .p (does_c (wmul_ok 1099511627776 1099511627776 (by decide) (by decide) (by decide) (by decide))) <| .a 1 1 <| .p (does_e true ((show ((65536 == 65536) && ((0 == 0) && true)) = true from by decide))) <| .a 1 1 <| .p (does_c (wof_ok (-12) (by decide) (by decide))) <| .p (does_c (wtext12_ok)) <|
    .p (does_pure (v := .bool true) (by kernel_rfl) (fun w => by kernel_rfl) (by kernel_rfl)) <| .a 2 1 <| .nil _ _) ?_
  refine aw_rt ?_
  exact en_ret [.bool true] (by kernel_rfl)

theorem terrkeep1_wideBegun_ok  :
    AC Tryd.prog 12 0 ([]) [] (.bool true) [] := by
  refine ac_in Tryd.func12 (fun w0 W pin => ?_)
  refine aw_p 3 (
    .a 1 1 <| .nil _ _) ?_
  refine aw_p 7 (
    .p (does_c (wmul_ok 1099511627776 1099511627776 (by decide) (by decide) (by decide) (by decide))) <| .a 1 1 <| .p (does_e true ((show ((65536 == 65536) && ((0 == 0) && true)) = true from by decide))) <| .a 1 1 <| .p (does_c (wof_ok (-12) (by decide) (by decide))) <| .p (does_c (wtext12_ok)) <|
    .p (does_pure (v := .bool true) (by kernel_rfl) (fun w => by kernel_rfl) (by kernel_rfl)) <| .a 2 1 <| .nil _ _) ?_
  refine aw_rt ?_
  exact en_ret [.bool true] (by kernel_rfl)


end Go.Proofs.YtjimiomokjfmiaaDoor.Am
