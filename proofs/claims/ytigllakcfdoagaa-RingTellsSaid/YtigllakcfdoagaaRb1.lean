/-
  What is asked ahead of the laws of rings: closed walks.
-/
import Derived.Test.YtigllakcfdoagaaProg
import Derived.Test.YtigllakcfdoagaaAm16
import Derived.Test.YtigllakcfdoagaaAm19
namespace Go.Proofs.Ytigllakcfdoagaa.Am
open Go Go.Proofs
set_option maxRecDepth 100000
set_option maxHeartbeats 4000000
set_option linter.unusedVariables false
set_option linter.unusedSimpArgs false

theorem au_terrlaw1_1  :
    AC Try.prog 34 0 ([.int .i64 0, .int .i64 0]) [] (.agg #[.int .i64 0, .int .i64 0]) [] := by
  refine ac_in Try.func34 (fun w0 W pin => ?_)
  refine aw_p 3 (
    .a 1 1 <| .nil _ _) ?_
  refine aw_p 7 (
    .a 4 2 <| .nil _ _) ?_
  refine aw_rt ?_
  exact en_ret [.agg #[.int .i64 0, .int .i64 0]] (by kernel_rfl)

theorem au_terrlaw1_2  :
    AC Try.prog 34 0 ([.int .i64 2, .int .i64 0]) [] (.agg #[.int .i64 2, .int .i64 0]) [] := by
  refine ac_in Try.func34 (fun w0 W pin => ?_)
  refine aw_p 3 (
    .a 1 1 <| .nil _ _) ?_
  refine aw_p 7 (
    .a 4 2 <| .nil _ _) ?_
  refine aw_rt ?_
  exact en_ret [.agg #[.int .i64 2, .int .i64 0]] (by kernel_rfl)

theorem au_terrlaw1_3  :
    AC Try.prog 34 0 ([.int .i64 2, .int .i64 2]) [] (.agg #[.int .i64 2, .int .i64 2]) [] := by
  refine ac_in Try.func34 (fun w0 W pin => ?_)
  refine aw_p 3 (
    .a 1 1 <| .nil _ _) ?_
  refine aw_p 7 (
    .a 4 2 <| .nil _ _) ?_
  refine aw_rt ?_
  exact en_ret [.agg #[.int .i64 2, .int .i64 2]] (by kernel_rfl)

theorem au_terrlaw1_4  :
    AC Try.prog 34 0 ([.int .i64 0, .int .i64 2]) [] (.agg #[.int .i64 0, .int .i64 2]) [] := by
  refine ac_in Try.func34 (fun w0 W pin => ?_)
  refine aw_p 3 (
    .a 1 1 <| .nil _ _) ?_
  refine aw_p 7 (
    .a 4 2 <| .nil _ _) ?_
  refine aw_rt ?_
  exact en_ret [.agg #[.int .i64 0, .int .i64 2]] (by kernel_rfl)

theorem au_terrlaw1_5  :
    AC Try.prog 117 0 ([.int .i64 0, .int .i64 0, .int .i64 2]) [] (.slice (some ⟨0, 0, none⟩) 4 0) [(0, ⟨[.int .i64 0, .int .i64 0, .int .i64 2, .int .i64 0, .int .i64 2, .int .i64 2, .int .i64 0, .int .i64 2], 24, true, 2⟩)] := by
  refine ac_in Try.func117 (fun w0 W pin => ?_)
  refine aw_p 3 (
    .a 1 1 <| .nil _ _) ?_
  refine aw_p 7 (
    .a 2 1 <| .p (does_c (au_terrlaw1_1)) <| .a 4 1 <| .p (does_c (au_terrlaw1_2)) <| .a 6 1 <| .p (does_c (au_terrlaw1_3)) <| .a 4 1 <| .p (does_c (au_terrlaw1_4)) <| .a 2 1 <| .nil _ _) ?_
  refine aw_r [(0, 1)] [(6, .slice (some ⟨1, 0, none⟩) 4 0)] [(1, ⟨[.int .i64 0, .int .i64 0, .int .i64 2, .int .i64 0, .int .i64 2, .int .i64 2, .int .i64 0, .int .i64 2], 24, true, 2⟩)] [(6, .slice (some ⟨0, 0, none⟩) 4 0)] [(0, ⟨[.int .i64 0, .int .i64 0, .int .i64 2, .int .i64 0, .int .i64 2, .int .i64 2, .int .i64 0, .int .i64 2], 24, true, 2⟩)] ?_ ⟨rfl, (.slice _ _ _ _ _ rfl), trivial⟩ ⟨rfl, ⟨rfl, rfl, rfl, (.flats (by kernel_rfl))⟩, trivial⟩
  refine aw_rt ?_
  exact en_ret [.slice (some ⟨0, 0, none⟩) 4 0] (by kernel_rfl)

theorem au_terrlaw1_6  :
    AC Try.prog 139 0 ([.int .i64 0, .int .i64 1048576]) [] (.int .i64 0) [] := by
  refine ac_in Try.func139 (fun w0 W pin => ?_)
  refine aw_p 3 (
    .a 1 1 <| .nil _ _) ?_
  refine aw_p 7 (
    .a 7 1 <| .nil _ _) ?_
  refine aw_rt ?_
  exact en_ret [.int .i64 0] (by kernel_rfl)

theorem au_terrlaw1_7  :
    AC Try.prog 85 0 ([.agg #[.int .i64 0, .int .i64 0]]) [] (.agg #[.int .i64 0, .int .i64 0]) [] := by
  refine ac_in Try.func85 (fun w0 W pin => ?_)
  refine aw_p 3 (
    .a 2 1 <| .nil _ _) ?_
  refine aw_d 7 (
    .a 2 3 <| .p (does_c (au_terrlaw1_6)) <| .a 2 3 <| .p (does_c (au_terrlaw1_6)) <| .a 2 3 <| .nil _ _) ?_
  refine aw_rt ?_
  exact en_ret [.agg #[.int .i64 0, .int .i64 0]] (by kernel_rfl)

theorem au_terrlaw1_8  :
    AC Try.prog 139 0 ([.int .i64 2, .int .i64 1048576]) [] (.int .i64 2) [] := by
  refine ac_in Try.func139 (fun w0 W pin => ?_)
  refine aw_p 3 (
    .a 1 1 <| .nil _ _) ?_
  refine aw_p 7 (
    .a 7 1 <| .nil _ _) ?_
  refine aw_rt ?_
  exact en_ret [.int .i64 2] (by kernel_rfl)

theorem au_terrlaw1_9  :
    AC Try.prog 85 0 ([.agg #[.int .i64 2, .int .i64 0]]) [] (.agg #[.int .i64 2, .int .i64 0]) [] := by
  refine ac_in Try.func85 (fun w0 W pin => ?_)
  refine aw_p 3 (
    .a 2 1 <| .nil _ _) ?_
  refine aw_d 7 (
    .a 2 3 <| .p (does_c (au_terrlaw1_8)) <| .a 2 3 <| .p (does_c (au_terrlaw1_6)) <| .a 2 3 <| .nil _ _) ?_
  refine aw_rt ?_
  exact en_ret [.agg #[.int .i64 2, .int .i64 0]] (by kernel_rfl)

theorem au_terrlaw1_10  :
    AC Try.prog 141 0 ([.agg #[.int .i64 0, .int .i64 0], .agg #[.int .i64 2, .int .i64 0]]) [] (.agg #[.int .i64 2, .int .i64 0]) [] := by
  refine ac_in Try.func141 (fun w0 W pin => ?_)
  refine aw_p 3 (
    .a 3 1 <| .nil _ _) ?_
  refine aw_d 7 (
    .a 1 4 <| .p (does_c (au_terrlaw1_7)) <| .a 1 4 <| .p (does_c (au_terrlaw1_9)) <| .a 2 4 <| .nil _ _) ?_
  refine aw_p 15 (
    .a 12 4 <| .nil _ _) ?_
  refine aw_rt ?_
  exact en_ret [.agg #[.int .i64 2, .int .i64 0]] (by kernel_rfl)

theorem au_terrlaw1_11  :
    AC Try.prog 85 0 ([.agg #[.int .i64 2, .int .i64 2]]) [] (.agg #[.int .i64 2, .int .i64 2]) [] := by
  refine ac_in Try.func85 (fun w0 W pin => ?_)
  refine aw_p 3 (
    .a 2 1 <| .nil _ _) ?_
  refine aw_d 7 (
    .a 2 3 <| .p (does_c (au_terrlaw1_8)) <| .a 2 3 <| .p (does_c (au_terrlaw1_8)) <| .a 2 3 <| .nil _ _) ?_
  refine aw_rt ?_
  exact en_ret [.agg #[.int .i64 2, .int .i64 2]] (by kernel_rfl)

theorem au_terrlaw1_12  :
    AC Try.prog 141 0 ([.agg #[.int .i64 0, .int .i64 0], .agg #[.int .i64 2, .int .i64 2]]) [] (.agg #[.int .i64 2, .int .i64 2]) [] := by
  refine ac_in Try.func141 (fun w0 W pin => ?_)
  refine aw_p 3 (
    .a 3 1 <| .nil _ _) ?_
  refine aw_d 7 (
    .a 1 4 <| .p (does_c (au_terrlaw1_7)) <| .a 1 4 <| .p (does_c (au_terrlaw1_11)) <| .a 2 4 <| .nil _ _) ?_
  refine aw_p 15 (
    .a 12 4 <| .nil _ _) ?_
  refine aw_rt ?_
  exact en_ret [.agg #[.int .i64 2, .int .i64 2]] (by kernel_rfl)

theorem au_terrlaw1_13  :
    AC Try.prog 89 0 ([.agg #[.int .i64 0, .int .i64 0], .agg #[.int .i64 2, .int .i64 0], .agg #[.int .i64 2, .int .i64 2]]) [] (.int .i64 4) [] := by
  refine ac_in Try.func89 (fun w0 W pin => ?_)
  refine aw_p 3 (
    .a 4 1 <| .nil _ _) ?_
  refine aw_d 7 (
    .a 2 4 <| .p (does_c (au_terrlaw1_10)) <| .a 2 4 <| .p (does_c (au_terrlaw1_12)) <| .a 4 4 <| .nil _ _) ?_
  refine aw_p 15 (
    .a 12 6 <| .nil _ _) ?_
  refine aw_w [(0, .agg #[.int .i64 0, .int .i64 0]), (1, .agg #[.int .i64 2, .int .i64 0]), (2, .agg #[.int .i64 2, .int .i64 2]), (3, .pointer (some ⟨1, 0, none⟩)), (4, .pointer (some ⟨2, 0, none⟩)), (5, .pointer (some ⟨3, 0, none⟩)), (6, .int .i64 4), (7, .pointer (some ⟨4, 0, none⟩)), (8, .pointer (some ⟨5, 0, none⟩)), (9, .agg #[.int .i64 0, .int .i64 0]), (10, .agg #[.int .i64 2, .int .i64 0]), (11, .agg #[.int .i64 2, .int .i64 0]), (12, .agg #[.int .i64 0, .int .i64 0]), (13, .agg #[.int .i64 2, .int .i64 2]), (14, .agg #[.int .i64 2, .int .i64 2])] [(1, ⟨[.int .i64 0, .int .i64 0], 24, true, 2⟩), (2, ⟨[.int .i64 2, .int .i64 0], 24, true, 2⟩), (3, ⟨[.int .i64 2, .int .i64 2], 24, true, 2⟩), (4, ⟨[.int .i64 2, .int .i64 0], 24, true, 2⟩), (5, ⟨[.int .i64 2, .int .i64 2], 24, true, 2⟩)] ?_
  refine aw_rt ?_
  exact en_ret [.int .i64 4] (by kernel_rfl)

theorem au_terrlaw1_14  :
    AC Try.prog 85 0 ([.agg #[.int .i64 0, .int .i64 2]]) [] (.agg #[.int .i64 0, .int .i64 2]) [] := by
  refine ac_in Try.func85 (fun w0 W pin => ?_)
  refine aw_p 3 (
    .a 2 1 <| .nil _ _) ?_
  refine aw_d 7 (
    .a 2 3 <| .p (does_c (au_terrlaw1_6)) <| .a 2 3 <| .p (does_c (au_terrlaw1_8)) <| .a 2 3 <| .nil _ _) ?_
  refine aw_rt ?_
  exact en_ret [.agg #[.int .i64 0, .int .i64 2]] (by kernel_rfl)

theorem au_terrlaw1_15  :
    AC Try.prog 141 0 ([.agg #[.int .i64 0, .int .i64 0], .agg #[.int .i64 0, .int .i64 2]]) [] (.agg #[.int .i64 0, .int .i64 2]) [] := by
  refine ac_in Try.func141 (fun w0 W pin => ?_)
  refine aw_p 3 (
    .a 3 1 <| .nil _ _) ?_
  refine aw_d 7 (
    .a 1 4 <| .p (does_c (au_terrlaw1_7)) <| .a 1 4 <| .p (does_c (au_terrlaw1_14)) <| .a 2 4 <| .nil _ _) ?_
  refine aw_p 15 (
    .a 12 4 <| .nil _ _) ?_
  refine aw_rt ?_
  exact en_ret [.agg #[.int .i64 0, .int .i64 2]] (by kernel_rfl)

theorem au_terrlaw1_16  :
    AC Try.prog 89 0 ([.agg #[.int .i64 0, .int .i64 0], .agg #[.int .i64 2, .int .i64 2], .agg #[.int .i64 0, .int .i64 2]]) [] (.int .i64 4) [] := by
  refine ac_in Try.func89 (fun w0 W pin => ?_)
  refine aw_p 3 (
    .a 4 1 <| .nil _ _) ?_
  refine aw_d 7 (
    .a 2 4 <| .p (does_c (au_terrlaw1_12)) <| .a 2 4 <| .p (does_c (au_terrlaw1_15)) <| .a 4 4 <| .nil _ _) ?_
  refine aw_p 15 (
    .a 12 6 <| .nil _ _) ?_
  refine aw_w [(0, .agg #[.int .i64 0, .int .i64 0]), (1, .agg #[.int .i64 2, .int .i64 2]), (2, .agg #[.int .i64 0, .int .i64 2]), (3, .pointer (some ⟨1, 0, none⟩)), (4, .pointer (some ⟨2, 0, none⟩)), (5, .pointer (some ⟨3, 0, none⟩)), (6, .int .i64 4), (7, .pointer (some ⟨4, 0, none⟩)), (8, .pointer (some ⟨5, 0, none⟩)), (9, .agg #[.int .i64 0, .int .i64 0]), (10, .agg #[.int .i64 2, .int .i64 2]), (11, .agg #[.int .i64 2, .int .i64 2]), (12, .agg #[.int .i64 0, .int .i64 0]), (13, .agg #[.int .i64 0, .int .i64 2]), (14, .agg #[.int .i64 0, .int .i64 2])] [(1, ⟨[.int .i64 0, .int .i64 0], 24, true, 2⟩), (2, ⟨[.int .i64 2, .int .i64 2], 24, true, 2⟩), (3, ⟨[.int .i64 0, .int .i64 2], 24, true, 2⟩), (4, ⟨[.int .i64 2, .int .i64 2], 24, true, 2⟩), (5, ⟨[.int .i64 0, .int .i64 2], 24, true, 2⟩)] ?_
  refine aw_rt ?_
  exact en_ret [.int .i64 4] (by kernel_rfl)

theorem au_terrlaw1_17  :
    AC Try.prog 56 1 ([.slice (some ⟨0, 0, none⟩) 4 0]) [(0, ⟨[.int .i64 0, .int .i64 0, .int .i64 2, .int .i64 0, .int .i64 2, .int .i64 2, .int .i64 0, .int .i64 2], 24, true, 2⟩)] (.int .i64 8) [(0, ⟨[.int .i64 0, .int .i64 0, .int .i64 2, .int .i64 0, .int .i64 2, .int .i64 2, .int .i64 0, .int .i64 2], 24, true, 2⟩)] := by
  refine ac_in Try.func56 (fun w0 W pin => ?_)
  refine aw_p 3 (
    .a 1 1 <| .nil _ _) ?_
  refine aw_p 7 (
    .a 1 1 <| .nil _ _) ?_
  refine aw_sq 14 15 ?_
  refine aw_p 29 (
    .a 1 1 <| .nil _ _) ?_
  refine aw_bl 0 59 ?_
  refine aw_lp 119 ?_
  refine al_round ?_
  refine aw_sq 238 239 ?_
  refine aw_p 477 (
    .a 4 1 <| .nil _ _) ?_
  refine aw_tr 954 ?_
  refine aw_sk ?_
  refine then_normal ?_
  refine aw_sq 478 479 ?_
  refine aw_bl 1 957 ?_
  refine aw_d1 (
    .a 13 1 <| .p (does_c (au_terrlaw1_13)) <| .a 2 1 <| .nil _ _) ?_
  refine block_normal ?_
  refine then_normal ?_
  refine aw_p1 (
    .a 3 1 <| .nil _ _) ?_
  refine then_normal ?_
  refine al_round ?_
  refine aw_sq 238 239 ?_
  refine aw_p 477 (
    .a 4 1 <| .nil _ _) ?_
  refine aw_w [(0, .slice (some ⟨0, 0, none⟩) 4 0), (2, .int .i64 0), (3, .int .i64 4), (4, .int .i64 3), (5, .int .i64 3), (6, .slice (some ⟨0, 0, none⟩) 4 0), (7, .int .i64 4), (8, .bool true), (9, .int .i64 2), (10, .int .i64 3), (11, .int .i64 0), (12, .slice (some ⟨0, 0, none⟩) 4 0), (13, .pointer (some ⟨0, 0, none⟩)), (14, .agg #[.int .i64 0, .int .i64 0]), (15, .slice (some ⟨0, 0, none⟩) 4 0), (16, .int .i64 2), (17, .int .i64 1), (18, .pointer (some ⟨0, 2, none⟩)), (19, .agg #[.int .i64 2, .int .i64 0]), (20, .slice (some ⟨0, 0, none⟩) 4 0), (21, .int .i64 2), (22, .pointer (some ⟨0, 4, none⟩)), (23, .agg #[.int .i64 2, .int .i64 2]), (24, .int .i64 4), (25, .int .i64 4)] [(0, ⟨[.int .i64 0, .int .i64 0, .int .i64 2, .int .i64 0, .int .i64 2, .int .i64 2, .int .i64 0, .int .i64 2], 24, true, 2⟩)] ?_
  refine aw_tr 954 ?_
  refine aw_sk ?_
  refine then_normal ?_
  refine aw_sq 478 479 ?_
  refine aw_bl 1 957 ?_
  refine aw_d1 (
    .a 13 1 <| .p (does_c (au_terrlaw1_16)) <| .a 2 1 <| .nil _ _) ?_
  refine block_normal ?_
  refine then_normal ?_
  refine aw_p1 (
    .a 3 1 <| .nil _ _) ?_
  refine then_normal ?_
  refine al_round ?_
  refine aw_sq 238 239 ?_
  refine aw_p 477 (
    .a 4 1 <| .nil _ _) ?_
  refine aw_fl 955 ?_
  refine aw_ex 0 ?_
  refine then_exit ?_
  refine then_exit ?_
  refine block_exit ?_
  refine then_normal ?_
  refine aw_p 31 (
    .a 2 1 <| .nil _ _) ?_
  refine aw_w [(0, .slice (some ⟨0, 0, none⟩) 4 0), (2, .int .i64 8), (3, .int .i64 8), (4, .int .i64 4), (5, .int .i64 4), (6, .slice (some ⟨0, 0, none⟩) 4 0), (7, .int .i64 4), (8, .bool false), (9, .int .i64 3), (10, .int .i64 4), (11, .int .i64 4), (12, .slice (some ⟨0, 0, none⟩) 4 0), (13, .pointer (some ⟨0, 0, none⟩)), (14, .agg #[.int .i64 0, .int .i64 0]), (15, .slice (some ⟨0, 0, none⟩) 4 0), (16, .int .i64 3), (17, .int .i64 2), (18, .pointer (some ⟨0, 4, none⟩)), (19, .agg #[.int .i64 2, .int .i64 2]), (20, .slice (some ⟨0, 0, none⟩) 4 0), (21, .int .i64 3), (22, .pointer (some ⟨0, 6, none⟩)), (23, .agg #[.int .i64 0, .int .i64 2]), (24, .int .i64 4), (25, .int .i64 8)] [(0, ⟨[.int .i64 0, .int .i64 0, .int .i64 2, .int .i64 0, .int .i64 2, .int .i64 2, .int .i64 0, .int .i64 2], 24, true, 2⟩)] ?_
  refine aw_rt ?_
  exact en_ret [.int .i64 8] (by kernel_rfl)

theorem au_terrlaw1_18  :
    AC Try.prog 54 0 ([.slice none 0 0]) [] (.int .i64 3) [] := by
  refine ac_in Try.func54 (fun w0 W pin => ?_)
  refine aw_p 3 (
    .a 1 1 <| .nil _ _) ?_
  refine aw_p 7 (
    .a 3 1 <| .nil _ _) ?_
  refine aw_sq 14 15 ?_
  refine aw_bl 0 29 ?_
  refine aw_p 59 (
    .a 3 1 <| .nil _ _) ?_
  refine aw_fl 119 ?_
  refine aw_p 239 (
    .a 3 1 <| .nil _ _) ?_
  refine aw_tr 478 ?_
  refine aw_p 957 (
    .a 1 1 <| .nil _ _) ?_
  refine aw_rt ?_
  refine block_ret ?_
  refine then_ret ?_
  exact en_ret [.int .i64 3] (by kernel_rfl)

theorem terrlaw1_ringBegun_ok  :
    AC Try.prog 53 0 ([]) [] (.bool true) [] := by
  refine ac_in Try.func53 (fun w0 W pin => ?_)
  refine aw_p 3 (
    .a 1 1 <| .nil _ _) ?_
  refine aw_p 7 (
    .p (does_k [1] (au_terrlaw1_5)) <| .p (does_k [1] (au_terrlaw1_17)) <| .a 2 2 <| .p (does_c (au_terrlaw1_18)) <| .a 3 2 <| .nil _ _) ?_
  refine aw_rt ?_
  exact en_ret [.bool true] (by kernel_rfl)


end Go.Proofs.Ytigllakcfdoagaa.Am
