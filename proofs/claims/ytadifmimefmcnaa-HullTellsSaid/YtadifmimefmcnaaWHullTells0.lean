/-
  The walk of the law HullTells without points.
-/
import Derived.Test.YtadifmimefmcnaaProg
import Derived.Test.YtadifmimefmcnaaAm16
import Derived.Test.YtadifmimefmcnaaHl
import Derived.Test.YtadifmimefmcnaaHb1
namespace Go.Proofs.Ytadifmimefmcnaa.Am
open Go Go.Proofs
set_option maxRecDepth 100000
set_option maxHeartbeats 4000000
set_option linter.unusedVariables false
set_option linter.unusedSimpArgs false

theorem au_hullz_1  :
    AC Try.prog 145 0 ([.int .u64 0]) [] (.int .i64 0) [] := by
  refine ac_in Try.func145 (fun w0 W pin => ?_)
  refine aw_p 3 (
    .a 1 1 <| .nil _ _) ?_
  refine aw_sq 6 7 ?_
  refine aw_p 13 (
    .a 2 1 <| .nil _ _) ?_
  refine aw_fl 27 ?_
  refine aw_sk ?_
  refine then_normal ?_
  refine aw_sq 14 15 ?_
  refine aw_p 29 (
    .a 2 1 <| .nil _ _) ?_
  refine aw_fl 59 ?_
  refine aw_sk ?_
  refine then_normal ?_
  refine aw_sq 30 31 ?_
  refine aw_p 61 (
    .a 2 1 <| .nil _ _) ?_
  refine aw_fl 123 ?_
  refine aw_sk ?_
  refine then_normal ?_
  refine aw_p 63 (
    .a 3 1 <|
    .p (does_val (v' := .int .u8 0) (does_ixs (s := (ByteArray.mk #[0, 1, 2, 2, 3, 3, 3, 3, 4, 4, 4, 4, 4, 4, 4, 4, 5, 5, 5, 5, 5, 5, 5, 5, 5, 5, 5, 5, 5, 5, 5, 5, 6, 6, 6, 6, 6, 6, 6, 6, 6, 6, 6, 6, 6, 6, 6, 6, 6, 6, 6, 6, 6, 6, 6, 6, 6, 6, 6, 6, 6, 6, 6, 6, 7, 7, 7, 7, 7, 7, 7, 7, 7, 7, 7, 7, 7, 7, 7, 7, 7, 7, 7, 7, 7, 7, 7, 7, 7, 7, 7, 7, 7, 7, 7, 7, 7, 7, 7, 7, 7, 7, 7, 7, 7, 7, 7, 7, 7, 7, 7, 7, 7, 7, 7, 7, 7, 7, 7, 7, 7, 7, 7, 7, 7, 7, 7, 7, 8, 8, 8, 8, 8, 8, 8, 8, 8, 8, 8, 8, 8, 8, 8, 8, 8, 8, 8, 8, 8, 8, 8, 8, 8, 8, 8, 8, 8, 8, 8, 8, 8, 8, 8, 8, 8, 8, 8, 8, 8, 8, 8, 8, 8, 8, 8, 8, 8, 8, 8, 8, 8, 8, 8, 8, 8, 8, 8, 8, 8, 8, 8, 8, 8, 8, 8, 8, 8, 8, 8, 8, 8, 8, 8, 8, 8, 8, 8, 8, 8, 8, 8, 8, 8, 8, 8, 8, 8, 8, 8, 8, 8, 8, 8, 8, 8, 8, 8, 8, 8, 8, 8, 8, 8, 8, 8, 8, 8, 8, 8, 8, 8, 8, 8, 8, 8, 8, 8, 8, 8, 8, 8, 8, 8, 8, 8, 8])) (j := 0) (b := (0 : UInt8)) (by decide) (by kernel_rfl)) (by kernel_rfl)) <|
    .a 3 1 <| .nil _ _) ?_
  refine aw_rt ?_
  exact en_ret [.int .i64 0] (by kernel_rfl)

theorem au_hullz_2  :
    AC Try.prog 114 0 ([.int .u64 0]) [] (.int .i64 0) [] := by
  refine ac_in Try.func114 (fun w0 W pin => ?_)
  refine aw_p 3 (
    .a 1 1 <| .nil _ _) ?_
  refine aw_sq 6 7 ?_
  refine aw_fl 13 ?_
  refine aw_sk ?_
  refine then_normal ?_
  refine aw_p 15 (
    .a 1 1 <| .p (does_c (au_hullz_1)) <| .a 1 1 <| .nil _ _) ?_
  refine aw_rt ?_
  exact en_ret [.int .i64 0] (by kernel_rfl)

theorem au_hullz_3  :
    AC Try.prog 146 1 ([.slice (some ⟨0, 0, none⟩) 0 0, .int .i64 0, .int .i64 0, .func (.func 82) #[] #[]]) [(0, ⟨[], 29, true, 2⟩)] (.tuple #[]) [(0, ⟨[], 29, true, 2⟩)] := by
  refine ac_in Try.func146 (fun w0 W pin => ?_)
  refine aw_p 3 (
    .a 3 1 <| .nil _ _) ?_
  refine aw_bl 0 7 ?_
  refine aw_lp 15 ?_
  refine al_round ?_
  refine aw_sq 30 31 ?_
  refine aw_p 61 (
    .a 3 1 <| .nil _ _) ?_
  refine aw_fl 123 ?_
  refine aw_ex 0 ?_
  refine then_exit ?_
  refine then_exit ?_
  refine block_exit ?_
  exact en_normal [] (by kernel_rfl)

theorem au_hullz_4  :
    AC Try.prog 118 1 ([.slice (some ⟨0, 0, none⟩) 0 0, .int .i64 0, .int .i64 0, .int .i64 0, .func (.func 82) #[] #[]]) [(0, ⟨[], 29, true, 2⟩)] (.tuple #[]) [(0, ⟨[], 29, true, 2⟩)] := by
  refine ac_in Try.func118 (fun w0 W pin => ?_)
  refine aw_p 3 (
    .a 1 1 <| .nil _ _) ?_
  refine aw_p 7 (
    .a 1 1 <| .nil _ _) ?_
  refine aw_bl 0 15 ?_
  refine aw_lp 31 ?_
  refine al_round ?_
  refine aw_bl 1 63 ?_
  refine aw_p 127 (
    .a 4 1 <| .nil _ _) ?_
  refine aw_sq 254 255 ?_
  refine aw_p 509 (
    .a 2 1 <| .nil _ _) ?_
  refine aw_tr 1018 ?_
  refine aw_p 2037 (
    .a 4 1 <| .p (does_k [0] (au_hullz_3)) <| .nil _ _) ?_
  refine aw_rt ?_
  refine then_ret ?_
  refine block_ret ?_
  refine then_ret ?_
  refine block_ret ?_
  exact en_ret [] (by kernel_rfl)

theorem au_hullz_5  :
    AC Try.prog 81 1 ([.slice (some ⟨0, 0, none⟩) 0 0, .func (.func 82) #[] #[]]) [(0, ⟨[], 29, true, 2⟩)] (.tuple #[]) [(0, ⟨[], 29, true, 2⟩)] := by
  refine ac_in Try.func81 (fun w0 W pin => ?_)
  refine aw_p 3 (
    .a 3 1 <| .nil _ _) ?_
  refine aw_p1 (
    .a 4 1 <| .p (does_c (au_hullz_2)) <| .a 1 1 <| .p (does_k [0] (au_hullz_4)) <| .nil _ _) ?_
  exact en_normal [] (by kernel_rfl)

theorem au_hullz_6  :
    AC Try.prog 83 1 ([.slice (some ⟨0, 0, none⟩) 0 0]) [(0, ⟨[], 29, true, 2⟩)] (.slice (some ⟨0, 0, none⟩) 0 0) [(0, ⟨[], 29, true, 2⟩)] := by
  refine ac_in Try.func83 (fun w0 W pin => ?_)
  refine aw_p 3 (
    .a 1 1 <| .nil _ _) ?_
  refine aw_sq 6 7 ?_
  refine aw_p 13 (
    .a 3 1 <| .nil _ _) ?_
  refine aw_tr 26 ?_
  refine aw_p 53 (
    .a 2 1 <| .nil _ _) ?_
  refine aw_rt ?_
  refine then_ret ?_
  exact en_ret [.slice (some ⟨0, 0, none⟩) 0 0] (by kernel_rfl)

theorem au_hullz_7  :
    AC Try.prog 36 1 ([.slice (some ⟨0, 0, none⟩) 0 0]) [(0, ⟨[], 29, false, 2⟩)] (.slice (some ⟨1, 0, none⟩) 0 0) [(1, ⟨[], 29, true, 2⟩)] := by
  refine ac_in Try.func36 (fun w0 W pin => ?_)
  refine aw_p 3 (
    .a 1 1 <| .nil _ _) ?_
  refine aw_p 7 (
    .a 2 1 <| .p (does_mk (kl := .i64) (kc := .i64) (n' := 0) (c' := 0) 1 29 2 16 0 0 (.agg #[.int .i64 0, .int .i64 0]) [] (by kernel_rfl) (by kernel_rfl) (by kernel_rfl) (by kernel_rfl) (by decide) (by decide) (by decide) (by decide) (by decide)) <| .a 1 2 <| .nil _ _) ?_
  refine aw_sq 14 15 ?_
  refine aw_p 29 (
    .a 3 2 <| .nil _ _) ?_
  refine aw_bl 0 59 ?_
  refine aw_lp 119 ?_
  refine al_round ?_
  refine aw_p 239 (
    .a 1 2 <| .nil _ _) ?_
  refine aw_sq 478 479 ?_
  refine aw_fl 957 ?_
  refine aw_ex 0 ?_
  refine then_exit ?_
  refine then_exit ?_
  refine block_exit ?_
  refine then_normal ?_
  refine aw_p 31 (
    .a 1 2 <| .p (does_k [1] (au_hullz_5)) <| .nil _ _) ?_
  refine aw_p 63 (
    .a 1 2 <| .p (does_k [1] (au_hullz_6)) <| .a 1 2 <| .nil _ _) ?_
  refine aw_sq 126 127 ?_
  refine aw_p 253 (
    .a 3 2 <| .nil _ _) ?_
  refine aw_tr 506 ?_
  refine aw_p 1013 (
    .a 2 2 <| .nil _ _) ?_
  refine aw_rt ?_
  refine then_ret ?_
  exact en_ret [.slice (some ⟨1, 0, none⟩) 0 0] (by kernel_rfl)

theorem au_hullTells_8  :
    AC Try.prog 38 1 ([.slice (some ⟨0, 0, none⟩) 0 0]) [(0, ⟨[], 29, false, 2⟩)] (.slice none 0 0) [] := by
  refine ac_in Try.func38 (fun w0 W pin => ?_)
  refine aw_p 3 (
    .a 1 1 <| .nil _ _) ?_
  refine aw_p 7 (
    .a 1 1 <| .nil _ _) ?_
  refine aw_sq 14 15 ?_
  refine aw_p 29 (
    .a 3 1 <| .nil _ _) ?_
  refine aw_bl 0 59 ?_
  refine aw_lp 119 ?_
  refine al_round ?_
  refine aw_p 239 (
    .a 1 1 <| .nil _ _) ?_
  refine aw_sq 478 479 ?_
  refine aw_fl 957 ?_
  refine aw_ex 0 ?_
  refine then_exit ?_
  refine then_exit ?_
  refine block_exit ?_
  refine then_normal ?_
  refine aw_sq 30 31 ?_
  refine aw_p 61 (
    .a 3 1 <| .nil _ _) ?_
  refine aw_tr 122 ?_
  refine aw_p 245 (
    .a 1 1 <| .nil _ _) ?_
  refine aw_rt ?_
  refine then_ret ?_
  exact en_ret [.slice none 0 0] (by kernel_rfl)

theorem au_hullTells_9  :
    AC Try.prog 17 1 ([.slice (some ⟨0, 0, none⟩) 0 0, .slice none 0 0]) [(0, ⟨[], 29, true, 2⟩)] (.bool true) [(0, ⟨[], 29, true, 2⟩)] := by
  refine ac_in Try.func17 (fun w0 W pin => ?_)
  refine aw_p 3 (
    .a 1 1 <| .nil _ _) ?_
  refine aw_sq 6 7 ?_
  refine aw_p 13 (
    .a 5 1 <| .nil _ _) ?_
  refine aw_fl 27 ?_
  refine aw_sk ?_
  refine then_normal ?_
  refine aw_sq 14 15 ?_
  refine aw_p 29 (
    .a 3 1 <| .nil _ _) ?_
  refine aw_bl 0 59 ?_
  refine aw_lp 119 ?_
  refine al_round ?_
  refine aw_p 239 (
    .a 1 1 <| .nil _ _) ?_
  refine aw_sq 478 479 ?_
  refine aw_fl 957 ?_
  refine aw_ex 0 ?_
  refine then_exit ?_
  refine then_exit ?_
  refine block_exit ?_
  refine then_normal ?_
  refine aw_p 31 (
    .a 1 1 <| .nil _ _) ?_
  refine aw_rt ?_
  exact en_ret [.bool true] (by kernel_rfl)

theorem au_hullTells_10  :
    AC Try.prog 37 1 ([.slice (some ⟨0, 0, none⟩) 0 0]) [(0, ⟨[], 29, false, 2⟩)] (.int .i64 0) [] := by
  refine ac_in Try.func37 (fun w0 W pin => ?_)
  refine aw_p 3 (
    .a 1 1 <| .nil _ _) ?_
  refine aw_p 7 (
    .a 1 1 <| .nil _ _) ?_
  refine aw_p 15 (
    .a 1 1 <| .p (does_k [0, 1] (au_hullz_7)) <| .a 1 2 <| .nil _ _) ?_
  refine aw_sq 30 31 ?_
  refine aw_p 61 (
    .a 3 2 <| .nil _ _) ?_
  refine aw_bl 0 123 ?_
  refine aw_lp 247 ?_
  refine al_round ?_
  refine aw_p 495 (
    .a 1 2 <| .nil _ _) ?_
  refine aw_sq 990 991 ?_
  refine aw_fl 1981 ?_
  refine aw_ex 0 ?_
  refine then_exit ?_
  refine then_exit ?_
  refine block_exit ?_
  refine then_normal ?_
  refine aw_p 63 (
    .a 2 2 <| .nil _ _) ?_
  refine aw_rt ?_
  exact en_ret [.int .i64 0] (by kernel_rfl)

theorem hullz_has (x y : Int) :
    AC Try.prog 34 1 ([.slice (some ⟨0, 0, none⟩) 0 0, .agg #[.int .i64 x, .int .i64 y]]) [(0, ⟨[], 29, false, 2⟩)] (.bool false) [] := by
  refine ac_in Try.func34 (fun w0 W pin => ?_)
  refine aw_p 3 (
    .a 2 1 <| .nil _ _) ?_
  refine aw_p 7 (
    .a 1 2 <| .p (does_c (clamp_ok x y)) <| .a 1 2 <| .nil _ _) ?_
  refine aw_p 15 (
    .a 1 2 <| .p (does_k [0, 2] (au_hullz_7)) <| .a 1 3 <| .nil _ _) ?_
  refine aw_sq 30 31 ?_
  refine aw_p 61 (
    .a 2 3 <| .nil _ _) ?_
  refine aw_bl 0 123 ?_
  refine aw_p 247 (
    .a 2 3 <| .nil _ _) ?_
  refine aw_tr 494 ?_
  refine aw_p 989 (
    .a 1 3 <| .nil _ _) ?_
  refine aw_rt ?_
  refine block_ret ?_
  refine then_ret ?_
  exact en_ret [.bool false] (by kernel_rfl)

theorem hullTells_nil (x y : Int) :
    AC Try.prog 9 1 ([.slice (some ⟨0, 0, none⟩) 0 0, .agg #[.int .i64 x, .int .i64 y]]) [(0, ⟨[], 29, false, 2⟩)] (.bool true) [] := by
  refine ac_in Try.func9 (fun w0 W pin => ?_)
  refine aw_p 3 (
    .a 2 1 <| .nil _ _) ?_
  refine aw_p 7 (
    .a 1 2 <| .p (does_k [0] (au_hullTells_8)) <| .a 1 2 <| .nil _ _) ?_
  refine aw_sq 14 15 ?_
  refine aw_p 29 (
    .p (does_c (hullBegun1_ok)) <| .a 3 2 <| .p (does_k [0, 2] (au_hullz_7)) <| .a 1 3 <| .p (does_k [2] (au_hullTells_9)) <| .a 2 3 <| .nil _ _) ?_
  refine aw_fl 59 ?_
  refine aw_sk ?_
  refine then_normal ?_
  refine aw_p 31 (
    .a 1 3 <| .nil _ _) ?_
  refine aw_sq 62 63 ?_
  refine aw_p 125 (
    .a 3 3 <| .nil _ _) ?_
  refine aw_bl 0 251 ?_
  refine aw_lp 503 ?_
  refine al_round ?_
  refine aw_p 1007 (
    .a 1 3 <| .nil _ _) ?_
  refine aw_sq 2014 2015 ?_
  refine aw_fl 4029 ?_
  refine aw_ex 0 ?_
  refine then_exit ?_
  refine then_exit ?_
  refine block_exit ?_
  refine then_normal ?_
  refine aw_d 127 (
    .a 1 3 <| .p (does_k [0] (au_hullTells_10)) <| .a 5 3 <|
    .p (does_callB (x := .func 34) (ars := #[.tmp 46, .tmp 47]) (ats := #[24, 29]) (g := 34) (vs := [.slice (some ⟨0, 0, none⟩) 0 0, .agg #[.int .i64 x, .int .i64 y]]) (m := 1) (r := 0) (firsts := #[]) (caps := #[]) (args0 := [.slice (some ⟨0, 0, none⟩) 0 0, .agg #[.int .i64 x, .int .i64 y]]) (pre0 := [(0, ⟨[], 29, false, 2⟩)]) (post0 := []) (pre := [(0, ⟨[], 29, false, 2⟩)]) (post := []) (v0 := .bool false) (v := .bool false) [0] (by kernel_rfl) (by kernel_rfl) (by kernel_rfl) (by kernel_rfl) (hullz_has x y) (.cons (.slice _ _ _ _ _ (by decide)) (.cons (.flatB (by kernel_rfl)) .nil)) ⟨rfl, ⟨rfl, rfl, rfl, (.flats (by kernel_rfl))⟩, trivial⟩ (by kernel_rfl) (by kernel_rfl) (by kernel_rfl) trivial (.flatB (by kernel_rfl))) <|
    .a 2 3 <| .p (does_c (hulledn x y)) <| .a 3 3 <| .nil _ _) ?_
  refine aw_rt ?_
  exact en_ret [.bool true] (by kernel_rfl)

end Go.Proofs.Ytadifmimefmcnaa.Am
