/-
  The walks of what is seen of a hull from any point.
-/
import Derived.Test.YtadifmimefmcnaaProg
import Derived.Test.YtadifmimefmcnaaAm16
import Derived.Test.YtadifmimefmcnaaHh
import Derived.Test.YtadifmimefmcnaaHu15
namespace Go.Proofs.Ytadifmimefmcnaa.Am
open Go Go.Proofs
set_option maxRecDepth 100000
set_option maxHeartbeats 4000000
set_option linter.unusedVariables false
set_option linter.unusedSimpArgs false

theorem au_hullzs_1  :
    AC Try.prog 145 0 ([.int .u64 0]) [] (.int .i64 0) [] := by
  refine ac_in Try.func145 (fun w0 W pin => ?_)
  refine aw_p 3 (
    .a 1 1 <| .nil _ _) ?_
  refine aw_sq 6 7 ?_
  refine aw_p 13 (
    .a 2 1 <| .nil _ _) ?_
  refine aw_fl 27 ?_
  refine aw_sk ?_
  refine then_normal ?_
  refine aw_sq 14 15 ?_
  refine aw_p 29 (
    .a 2 1 <| .nil _ _) ?_
  refine aw_fl 59 ?_
  refine aw_sk ?_
  refine then_normal ?_
  refine aw_sq 30 31 ?_
  refine aw_p 61 (
    .a 2 1 <| .nil _ _) ?_
  refine aw_fl 123 ?_
  refine aw_sk ?_
  refine then_normal ?_
  refine aw_p 63 (
    .a 3 1 <|
    .p (does_val (v' := .int .u8 0) (does_ixs (s := (ByteArray.mk #[0, 1, 2, 2, 3, 3, 3, 3, 4, 4, 4, 4, 4, 4, 4, 4, 5, 5, 5, 5, 5, 5, 5, 5, 5, 5, 5, 5, 5, 5, 5, 5, 6, 6, 6, 6, 6, 6, 6, 6, 6, 6, 6, 6, 6, 6, 6, 6, 6, 6, 6, 6, 6, 6, 6, 6, 6, 6, 6, 6, 6, 6, 6, 6, 7, 7, 7, 7, 7, 7, 7, 7, 7, 7, 7, 7, 7, 7, 7, 7, 7, 7, 7, 7, 7, 7, 7, 7, 7, 7, 7, 7, 7, 7, 7, 7, 7, 7, 7, 7, 7, 7, 7, 7, 7, 7, 7, 7, 7, 7, 7, 7, 7, 7, 7, 7, 7, 7, 7, 7, 7, 7, 7, 7, 7, 7, 7, 7, 8, 8, 8, 8, 8, 8, 8, 8, 8, 8, 8, 8, 8, 8, 8, 8, 8, 8, 8, 8, 8, 8, 8, 8, 8, 8, 8, 8, 8, 8, 8, 8, 8, 8, 8, 8, 8, 8, 8, 8, 8, 8, 8, 8, 8, 8, 8, 8, 8, 8, 8, 8, 8, 8, 8, 8, 8, 8, 8, 8, 8, 8, 8, 8, 8, 8, 8, 8, 8, 8, 8, 8, 8, 8, 8, 8, 8, 8, 8, 8, 8, 8, 8, 8, 8, 8, 8, 8, 8, 8, 8, 8, 8, 8, 8, 8, 8, 8, 8, 8, 8, 8, 8, 8, 8, 8, 8, 8, 8, 8, 8, 8, 8, 8, 8, 8, 8, 8, 8, 8, 8, 8, 8, 8, 8, 8, 8, 8])) (j := 0) (b := (0 : UInt8)) (by decide) (by kernel_rfl)) (by kernel_rfl)) <|
    .a 3 1 <| .nil _ _) ?_
  refine aw_rt ?_
  exact en_ret [.int .i64 0] (by kernel_rfl)

theorem au_hullzs_2  :
    AC Try.prog 114 0 ([.int .u64 0]) [] (.int .i64 0) [] := by
  refine ac_in Try.func114 (fun w0 W pin => ?_)
  refine aw_p 3 (
    .a 1 1 <| .nil _ _) ?_
  refine aw_sq 6 7 ?_
  refine aw_fl 13 ?_
  refine aw_sk ?_
  refine then_normal ?_
  refine aw_p 15 (
    .a 1 1 <| .p (does_c (au_hullzs_1)) <| .a 1 1 <| .nil _ _) ?_
  refine aw_rt ?_
  exact en_ret [.int .i64 0] (by kernel_rfl)

theorem au_hullzs_3  :
    AC Try.prog 146 1 ([.slice (some ⟨0, 0, none⟩) 0 0, .int .i64 0, .int .i64 0, .func (.func 82) #[] #[]]) [(0, ⟨[], 29, true, 2⟩)] (.tuple #[]) [(0, ⟨[], 29, true, 2⟩)] := by
  refine ac_in Try.func146 (fun w0 W pin => ?_)
  refine aw_p 3 (
    .a 3 1 <| .nil _ _) ?_
  refine aw_bl 0 7 ?_
  refine aw_lp 15 ?_
  refine al_round ?_
  refine aw_sq 30 31 ?_
  refine aw_p 61 (
    .a 3 1 <| .nil _ _) ?_
  refine aw_fl 123 ?_
  refine aw_ex 0 ?_
  refine then_exit ?_
  refine then_exit ?_
  refine block_exit ?_
  exact en_normal [] (by kernel_rfl)

theorem au_hullzs_4  :
    AC Try.prog 118 1 ([.slice (some ⟨0, 0, none⟩) 0 0, .int .i64 0, .int .i64 0, .int .i64 0, .func (.func 82) #[] #[]]) [(0, ⟨[], 29, true, 2⟩)] (.tuple #[]) [(0, ⟨[], 29, true, 2⟩)] := by
  refine ac_in Try.func118 (fun w0 W pin => ?_)
  refine aw_p 3 (
    .a 1 1 <| .nil _ _) ?_
  refine aw_p 7 (
    .a 1 1 <| .nil _ _) ?_
  refine aw_bl 0 15 ?_
  refine aw_lp 31 ?_
  refine al_round ?_
  refine aw_bl 1 63 ?_
  refine aw_p 127 (
    .a 4 1 <| .nil _ _) ?_
  refine aw_sq 254 255 ?_
  refine aw_p 509 (
    .a 2 1 <| .nil _ _) ?_
  refine aw_tr 1018 ?_
  refine aw_p 2037 (
    .a 4 1 <| .p (does_k [0] (au_hullzs_3)) <| .nil _ _) ?_
  refine aw_rt ?_
  refine then_ret ?_
  refine block_ret ?_
  refine then_ret ?_
  refine block_ret ?_
  exact en_ret [] (by kernel_rfl)

theorem au_hullzs_5  :
    AC Try.prog 81 1 ([.slice (some ⟨0, 0, none⟩) 0 0, .func (.func 82) #[] #[]]) [(0, ⟨[], 29, true, 2⟩)] (.tuple #[]) [(0, ⟨[], 29, true, 2⟩)] := by
  refine ac_in Try.func81 (fun w0 W pin => ?_)
  refine aw_p 3 (
    .a 3 1 <| .nil _ _) ?_
  refine aw_p1 (
    .a 4 1 <| .p (does_c (au_hullzs_2)) <| .a 1 1 <| .p (does_k [0] (au_hullzs_4)) <| .nil _ _) ?_
  exact en_normal [] (by kernel_rfl)

theorem au_hullzs_6  :
    AC Try.prog 83 1 ([.slice (some ⟨0, 0, none⟩) 0 0]) [(0, ⟨[], 29, true, 2⟩)] (.slice (some ⟨0, 0, none⟩) 0 0) [(0, ⟨[], 29, true, 2⟩)] := by
  refine ac_in Try.func83 (fun w0 W pin => ?_)
  refine aw_p 3 (
    .a 1 1 <| .nil _ _) ?_
  refine aw_sq 6 7 ?_
  refine aw_p 13 (
    .a 3 1 <| .nil _ _) ?_
  refine aw_tr 26 ?_
  refine aw_p 53 (
    .a 2 1 <| .nil _ _) ?_
  refine aw_rt ?_
  refine then_ret ?_
  exact en_ret [.slice (some ⟨0, 0, none⟩) 0 0] (by kernel_rfl)

theorem au_hullzs_7  :
    AC Try.prog 36 1 ([.slice (some ⟨0, 0, none⟩) 0 0]) [(0, ⟨[], 29, false, 2⟩)] (.slice (some ⟨1, 0, none⟩) 0 0) [(1, ⟨[], 29, true, 2⟩)] := by
  refine ac_in Try.func36 (fun w0 W pin => ?_)
  refine aw_p 3 (
    .a 1 1 <| .nil _ _) ?_
  refine aw_p 7 (
    .a 2 1 <| .p (does_mk (kl := .i64) (kc := .i64) (n' := 0) (c' := 0) 1 29 2 16 0 0 (.agg #[.int .i64 0, .int .i64 0]) [] (by kernel_rfl) (by kernel_rfl) (by kernel_rfl) (by kernel_rfl) (by decide) (by decide) (by decide) (by decide) (by decide)) <| .a 1 2 <| .nil _ _) ?_
  refine aw_sq 14 15 ?_
  refine aw_p 29 (
    .a 3 2 <| .nil _ _) ?_
  refine aw_bl 0 59 ?_
  refine aw_lp 119 ?_
  refine al_round ?_
  refine aw_p 239 (
    .a 1 2 <| .nil _ _) ?_
  refine aw_sq 478 479 ?_
  refine aw_fl 957 ?_
  refine aw_ex 0 ?_
  refine then_exit ?_
  refine then_exit ?_
  refine block_exit ?_
  refine then_normal ?_
  refine aw_p 31 (
    .a 1 2 <| .p (does_k [1] (au_hullzs_5)) <| .nil _ _) ?_
  refine aw_p 63 (
    .a 1 2 <| .p (does_k [1] (au_hullzs_6)) <| .a 1 2 <| .nil _ _) ?_
  refine aw_sq 126 127 ?_
  refine aw_p 253 (
    .a 3 2 <| .nil _ _) ?_
  refine aw_tr 506 ?_
  refine aw_p 1013 (
    .a 2 2 <| .nil _ _) ?_
  refine aw_rt ?_
  refine then_ret ?_
  exact en_ret [.slice (some ⟨1, 0, none⟩) 0 0] (by kernel_rfl)

theorem hullz_seen (x y : Int) :
    AC Try.prog 33 1 ([.slice (some ⟨0, 0, none⟩) 0 0, .agg #[.int .i64 x, .int .i64 y]]) [(0, ⟨[], 29, false, 2⟩)] (.tuple #[.agg #[.int .i64 0, .int .i64 0], .agg #[.int .i64 0, .int .i64 0], .int .i64 4]) [] := by
  refine ac_in Try.func33 (fun w0 W pin => ?_)
  refine aw_p 3 (
    .a 4 1 <| .nil _ _) ?_
  refine aw_p 7 (
    .a 1 4 <| .p (does_c (clamp_ok x y)) <| .a 1 4 <| .nil _ _) ?_
  refine aw_p 15 (
    .a 1 4 <| .p (does_k [0, 4] (au_hullzs_7)) <| .a 1 5 <| .nil _ _) ?_
  refine aw_sq 30 31 ?_
  refine aw_p 61 (
    .a 3 5 <| .nil _ _) ?_
  refine aw_tr 122 ?_
  refine aw_p 245 (
    .a 5 5 <| .nil _ _) ?_
  refine aw_rt ?_
  refine then_ret ?_
  exact en_ret [.agg #[.int .i64 0, .int .i64 0], .agg #[.int .i64 0, .int .i64 0], .int .i64 4] (by kernel_rfl)

theorem hullseenl_in (ps h : List (Int × Int)) (hh : Sp.hullF (ps.map Sp.lmP) = h) (h1 : 1 ≤ ps.length) (hz : ps.length ≤ 8796093021952) (x0 y0 x y : Int) (hx0 : Sp.lim 1048576 x0 = x) (hy0 : Sp.lim 1048576 y0 = y) (hhl : 1 ≤ h.length ∧ h.length ≤ 17592186043904) (hfh : Sp.Few 1048576 h) (hin : Sp.hasH h x y = true) :
    AC Try.prog 33 1 ([.slice (some ⟨0, 0, none⟩) ps.length 0, .agg #[.int .i64 x0, .int .i64 y0]]) [(0, ⟨(ps.flatMap ptc), 29, false, 2⟩)] (.tuple #[.agg #[.int .i64 0, .int .i64 0], .agg #[.int .i64 0, .int .i64 0], .int .i64 7]) [] := by
  have qx0 := Sp.lim_bd (m := 1048576) (by decide) x0; have qy0 := Sp.lim_bd (m := 1048576) (by decide) y0; rw [hx0] at qx0; rw [hy0] at qy0; have h1c := h1
  refine ac_in Try.func33 (fun w0 W pin => ?_)
  refine aw_p 3 (
    .a 4 1 <| .nil _ _) ?_
  refine aw_p 7 (
    .a 1 4 <| .p (does_c ((by have q := clamp_ok x0 y0; rw [hx0, hy0] at q; exact q))) <| .a 1 4 <| .nil _ _) ?_
  refine aw_p 15 (
    .a 1 4 <|
    .p (does_callB (x := .func 36) (ars := #[.tmp 16]) (ats := #[24]) (g := 36) (vs := [.slice (some ⟨0, 0, none⟩) ps.length 0]) (m := 1) (r := 1) (firsts := #[]) (caps := #[]) (args0 := [.slice (some ⟨0, 0, none⟩) ps.length 0]) (pre0 := [(0, ⟨(ps.flatMap ptc), 29, false, 2⟩)]) (post0 := [(1, ⟨(h.flatMap ptc), 29, true, 2⟩)]) (pre := [(0, ⟨(ps.flatMap ptc), 29, false, 2⟩)]) (post := [(4, ⟨(h.flatMap ptc), 29, true, 2⟩)]) (v0 := .slice (some ⟨1, 0, none⟩) h.length 0) (v := .slice (some ⟨4, 0, none⟩) h.length 0) [0, 4] (by kernel_rfl) (by kernel_rfl) (by kernel_rfl) (by kernel_rfl) (hull_ro ps h hh h1c hz) (.cons (.slice _ _ _ _ _ (by decide)) .nil) ⟨rfl, ⟨rfl, rfl, rfl, (.flats (flats_pair _))⟩, trivial⟩ (by kernel_rfl) (by kernel_rfl) (by kernel_rfl) ⟨rfl, ⟨rfl, rfl, rfl, (.flats (flats_pair _))⟩, trivial⟩ (.slice _ _ _ _ _ (by decide))) <|
    .a 1 5 <| .nil _ _) ?_
  refine aw_sq 30 31 ?_
  refine aw_p 61 (
    .a 2 5 <| .p (does_b false ((show (((h.length : Nat) : Int) == 0) = false from (by rw [beq_eq_false_iff_ne]; omega)))) <| .nil _ _) ?_
  refine aw_fl 123 ?_
  refine aw_sk ?_
  refine then_normal ?_
  refine aw_sq 62 63 ?_
  refine aw_p 125 (
    .a 2 5 <|
    .p (does_callB (x := .func 34) (ars := #[.tmp 23, .tmp 24]) (ats := #[24, 29]) (g := 34) (vs := [.slice (some ⟨0, 0, none⟩) ps.length 0, .agg #[.int .i64 x, .int .i64 y]]) (m := 1) (r := 0) (firsts := #[]) (caps := #[]) (args0 := [.slice (some ⟨0, 0, none⟩) ps.length 0, .agg #[.int .i64 x, .int .i64 y]]) (pre0 := [(0, ⟨(ps.flatMap ptc), 29, false, 2⟩)]) (post0 := []) (pre := [(0, ⟨(ps.flatMap ptc), 29, false, 2⟩)]) (post := []) (v0 := .bool (Sp.hasH h x y)) (v := .bool (Sp.hasH h x y)) [0] (by kernel_rfl) (by kernel_rfl) (by kernel_rfl) (by kernel_rfl) ((by have q := hullhas_ro ps h hh h1c hz x y (by omega) hfh; rw [Sp.lim_id (n := x) (by omega) (by omega), Sp.lim_id (n := y) (by omega) (by omega)] at q; exact q)) (.cons (.slice _ _ _ _ _ (by decide)) (.cons (.flatB (by kernel_rfl)) .nil)) ⟨rfl, ⟨rfl, rfl, rfl, (.flats (flats_pair _))⟩, trivial⟩ (by kernel_rfl) (by kernel_rfl) (by kernel_rfl) trivial (.flatB (by kernel_rfl))) <| .nil _ _) ?_
  refine aw_tr 250 ?_ (Sp.hasH h x y) (hin)
  refine aw_p 501 (
    .a 5 5 <| .nil _ _) ?_
  refine aw_rt ?_
  refine then_ret ?_
  exact en_ret [.agg #[.int .i64 0, .int .i64 0], .agg #[.int .i64 0, .int .i64 0], .int .i64 7] (by kernel_rfl)

theorem hullseenl_out (ps h : List (Int × Int)) (hh : Sp.hullF (ps.map Sp.lmP) = h) (h1 : 1 ≤ ps.length) (hz : ps.length ≤ 8796093021952) (x0 y0 x y : Int) (hx0 : Sp.lim 1048576 x0 = x) (hy0 : Sp.lim 1048576 y0 = y) (hhl : 1 ≤ h.length ∧ h.length ≤ 17592186043904) (hfh : Sp.Few 1048576 h) (hin : Sp.hasH h x y = false) :
    AC Try.prog 33 1 ([.slice (some ⟨0, 0, none⟩) ps.length 0, .agg #[.int .i64 x0, .int .i64 y0]]) [(0, ⟨(ps.flatMap ptc), 29, false, 2⟩)] (.tuple #[.agg #[.int .i64 ((Sp.seA h (x, y) (h.length - 1)).1), .int .i64 ((Sp.seA h (x, y) (h.length - 1)).2)], .agg #[.int .i64 ((Sp.seB h (x, y) (h.length - 1)).1), .int .i64 ((Sp.seB h (x, y) (h.length - 1)).2)], .int .i64 0]) [] := by
  have qx0 := Sp.lim_bd (m := 1048576) (by decide) x0; have qy0 := Sp.lim_bd (m := 1048576) (by decide) y0; rw [hx0] at qx0; rw [hy0] at qy0; have h1c := h1
  refine ac_in Try.func33 (fun w0 W pin => ?_)
  refine aw_p 3 (
    .a 4 1 <| .nil _ _) ?_
  refine aw_p 7 (
    .a 1 4 <| .p (does_c ((by have q := clamp_ok x0 y0; rw [hx0, hy0] at q; exact q))) <| .a 1 4 <| .nil _ _) ?_
  refine aw_p 15 (
    .a 1 4 <|
    .p (does_callB (x := .func 36) (ars := #[.tmp 16]) (ats := #[24]) (g := 36) (vs := [.slice (some ⟨0, 0, none⟩) ps.length 0]) (m := 1) (r := 1) (firsts := #[]) (caps := #[]) (args0 := [.slice (some ⟨0, 0, none⟩) ps.length 0]) (pre0 := [(0, ⟨(ps.flatMap ptc), 29, false, 2⟩)]) (post0 := [(1, ⟨(h.flatMap ptc), 29, true, 2⟩)]) (pre := [(0, ⟨(ps.flatMap ptc), 29, false, 2⟩)]) (post := [(4, ⟨(h.flatMap ptc), 29, true, 2⟩)]) (v0 := .slice (some ⟨1, 0, none⟩) h.length 0) (v := .slice (some ⟨4, 0, none⟩) h.length 0) [0, 4] (by kernel_rfl) (by kernel_rfl) (by kernel_rfl) (by kernel_rfl) (hull_ro ps h hh h1c hz) (.cons (.slice _ _ _ _ _ (by decide)) .nil) ⟨rfl, ⟨rfl, rfl, rfl, (.flats (flats_pair _))⟩, trivial⟩ (by kernel_rfl) (by kernel_rfl) (by kernel_rfl) ⟨rfl, ⟨rfl, rfl, rfl, (.flats (flats_pair _))⟩, trivial⟩ (.slice _ _ _ _ _ (by decide))) <|
    .a 1 5 <| .nil _ _) ?_
  refine aw_sq 30 31 ?_
  refine aw_p 61 (
    .a 2 5 <| .p (does_b false ((show (((h.length : Nat) : Int) == 0) = false from (by rw [beq_eq_false_iff_ne]; omega)))) <| .nil _ _) ?_
  refine aw_fl 123 ?_
  refine aw_sk ?_
  refine then_normal ?_
  refine aw_sq 62 63 ?_
  refine aw_p 125 (
    .a 2 5 <|
    .p (does_callB (x := .func 34) (ars := #[.tmp 23, .tmp 24]) (ats := #[24, 29]) (g := 34) (vs := [.slice (some ⟨0, 0, none⟩) ps.length 0, .agg #[.int .i64 x, .int .i64 y]]) (m := 1) (r := 0) (firsts := #[]) (caps := #[]) (args0 := [.slice (some ⟨0, 0, none⟩) ps.length 0, .agg #[.int .i64 x, .int .i64 y]]) (pre0 := [(0, ⟨(ps.flatMap ptc), 29, false, 2⟩)]) (post0 := []) (pre := [(0, ⟨(ps.flatMap ptc), 29, false, 2⟩)]) (post := []) (v0 := .bool (Sp.hasH h x y)) (v := .bool (Sp.hasH h x y)) [0] (by kernel_rfl) (by kernel_rfl) (by kernel_rfl) (by kernel_rfl) ((by have q := hullhas_ro ps h hh h1c hz x y (by omega) hfh; rw [Sp.lim_id (n := x) (by omega) (by omega), Sp.lim_id (n := y) (by omega) (by omega)] at q; exact q)) (.cons (.slice _ _ _ _ _ (by decide)) (.cons (.flatB (by kernel_rfl)) .nil)) ⟨rfl, ⟨rfl, rfl, rfl, (.flats (flats_pair _))⟩, trivial⟩ (by kernel_rfl) (by kernel_rfl) (by kernel_rfl) trivial (.flatB (by kernel_rfl))) <| .nil _ _) ?_
  refine aw_fl 251 ?_ (Sp.hasH h x y) (hin)
  refine aw_sk ?_
  refine then_normal ?_
  refine aw_d 127 (
    .a 1 5 <| .p (does_indexSlice (t := 24) (x := .tmp 28) (y := .const (.int .i64 0)) (k := 4) (off := 0) (n := h.length) (c := 0) (z := 2) (kd := .i64) (j := 0) (by kernel_rfl) (by kernel_rfl) (by kernel_rfl) (by kernel_rfl) (by kernel_rfl) (by omega) (by omega)) <|
    .p (does_load (t := 29) (x := .tmp 29) (k := 4) (off := 0) (b := ⟨(h.flatMap ptc), 29, true, 2⟩) (v := .agg #[.int .i64 ((h.getD 0 (0, 0)).1), .int .i64 ((h.getD 0 (0, 0)).2)]) (by kernel_rfl) (by kernel_rfl) (by kernel_rfl) (ldV_pair (j := 0) (by kernel_rfl) (by kernel_rfl) (by omega) (by omega))) <|
    .a 1 5 <| .p (does_indexSlice (t := 24) (x := .tmp 31) (y := .const (.int .i64 0)) (k := 4) (off := 0) (n := h.length) (c := 0) (z := 2) (kd := .i64) (j := 0) (by kernel_rfl) (by kernel_rfl) (by kernel_rfl) (by kernel_rfl) (by kernel_rfl) (by omega) (by omega)) <|
    .p (does_load (t := 29) (x := .tmp 32) (k := 4) (off := 0) (b := ⟨(h.flatMap ptc), 29, true, 2⟩) (v := .agg #[.int .i64 ((h.getD 0 (0, 0)).1), .int .i64 ((h.getD 0 (0, 0)).2)]) (by kernel_rfl) (by kernel_rfl) (by kernel_rfl) (ldV_pair (j := 0) (by kernel_rfl) (by kernel_rfl) (by omega) (by omega))) <|
    .a 4 5 <| .nil _ _) ?_
  refine aw_sq 254 255 ?_
  refine aw_p 509 (
    .a 1 7 <|
    .p (does_val (v' := .slice (some ⟨4, 2, none⟩) (h.length - 1) 0) (does_slice (t := 24) (x := .tmp 34) (lo := some (.const (.int .i64 1))) (hi := none) (k := 4) (off := 0) (n := h.length) (c := 0) (z := 2) (l := 1) (h := ((h.length : Nat) : Int)) (m := (h.length - 1)) (b := ⟨(h.flatMap ptc), 29, true, 2⟩) (by kernel_rfl) (by kernel_rfl) (by kernel_rfl) (by kernel_rfl) (by kernel_rfl) (by kernel_rfl) (by kernel_rfl) (by kernel_rfl) (by omega) (by omega) (by omega) (by omega)) (by kernel_rfl)) <|
    .a 2 7 <| .nil _ _) ?_
  refine aw_bl 0 1019 ?_
  refine aw_lp 2039 ?_
  refine al_w [(3, .pointer (some ⟨1, 0, none⟩)), (4, .pointer (some ⟨2, 0, none⟩)), (5, .pointer (some ⟨3, 0, none⟩)), (6, .int .i64 0), (8, .pointer (some ⟨5, 0, none⟩)), (9, .pointer (some ⟨6, 0, none⟩)), (35, .slice (some ⟨4, 2, none⟩) (h.length - 1) 0), (36, .int .i64 (((h.length - 1) : Nat) : Int)), (37, .int .i64 ((0 : Nat) : Int))] [(0, ⟨(ps.flatMap ptc), 29, false, 2⟩), (1, ⟨[.int .i64 x, .int .i64 y], 29, true, 2⟩), (2, ⟨[.int .i64 0, .int .i64 0], 29, true, 2⟩), (3, ⟨[.int .i64 0, .int .i64 0], 29, true, 2⟩), (4, ⟨(h.flatMap ptc), 29, true, 2⟩), (5, ⟨[.int .i64 ((h.getD 0 (0, 0)).1), .int .i64 ((h.getD 0 (0, 0)).2)], 29, true, 2⟩), (6, ⟨[.int .i64 ((h.getD 0 (0, 0)).1), .int .i64 ((h.getD 0 (0, 0)).2)], 29, true, 2⟩)] ?_ (hc := (by simp [closedB, valsB, valB, List.all_eq_true, List.mem_flatMap, List.mem_range, List.mem_map, i64v, ptc, flat1]; try (intros; simp [valsB, valB, flat1]); try decide))
  refine al_ind (fun i : Nat × Int × Int × Int × Int => (fun (k : Nat) (ax : Int) (ay : Int) (bx : Int) (b_y : Int) => mkSt 1 [(3, .pointer (some ⟨1, 0, none⟩)), (4, .pointer (some ⟨2, 0, none⟩)), (5, .pointer (some ⟨3, 0, none⟩)), (6, .int .i64 0), (8, .pointer (some ⟨5, 0, none⟩)), (9, .pointer (some ⟨6, 0, none⟩)), (35, .slice (some ⟨4, 2, none⟩) (h.length - 1) 0), (36, .int .i64 (((h.length - 1) : Nat) : Int)), (37, .int .i64 ((k : Nat) : Int))] [(0, ⟨(ps.flatMap ptc), 29, false, 2⟩), (1, ⟨[.int .i64 x, .int .i64 y], 29, true, 2⟩), (2, ⟨[.int .i64 0, .int .i64 0], 29, true, 2⟩), (3, ⟨[.int .i64 0, .int .i64 0], 29, true, 2⟩), (4, ⟨(h.flatMap ptc), 29, true, 2⟩), (5, ⟨[.int .i64 ax, .int .i64 ay], 29, true, 2⟩), (6, ⟨[.int .i64 bx, .int .i64 b_y], 29, true, 2⟩)]) i.1 i.2.1 i.2.2.1 i.2.2.2.1 i.2.2.2.2) (fun i : Nat × Int × Int × Int × Int => (fun (k : Nat) (ax : Int) (ay : Int) (bx : Int) (b_y : Int) => (k ≤ h.length - 1) ∧ ((ax, ay) = Sp.seA h (x, y) k) ∧ ((bx, b_y) = Sp.seB h (x, y) k) ∧ ((-1048576 ≤ ax ∧ ax ≤ 1048576) ∧ (-1048576 ≤ ay ∧ ay ≤ 1048576)) ∧ ((-1048576 ≤ bx ∧ bx ≤ 1048576) ∧ (-1048576 ≤ b_y ∧ b_y ≤ 1048576))) i.1 i.2.1 i.2.2.1 i.2.2.2.1 i.2.2.2.2) (fun i : Nat × Int × Int × Int × Int => (fun (k : Nat) (ax : Int) (ay : Int) (bx : Int) (b_y : Int) => h.length - 1 - k) i.1 i.2.1 i.2.2.1 i.2.2.2.1 i.2.2.2.2) (fun i hi1 ih1 => ?_) (0, ((h.getD 0 (0, 0)).1), ((h.getD 0 (0, 0)).2), ((h.getD 0 (0, 0)).1), ((h.getD 0 (0, 0)).2)) (show (0 ≤ h.length - 1) ∧ ((((h.getD 0 (0, 0)).1), ((h.getD 0 (0, 0)).2)) = Sp.seA h (x, y) 0) ∧ ((((h.getD 0 (0, 0)).1), ((h.getD 0 (0, 0)).2)) = Sp.seB h (x, y) 0) ∧ ((-1048576 ≤ ((h.getD 0 (0, 0)).1) ∧ ((h.getD 0 (0, 0)).1) ≤ 1048576) ∧ (-1048576 ≤ ((h.getD 0 (0, 0)).2) ∧ ((h.getD 0 (0, 0)).2) ≤ 1048576)) ∧ ((-1048576 ≤ ((h.getD 0 (0, 0)).1) ∧ ((h.getD 0 (0, 0)).1) ≤ 1048576) ∧ (-1048576 ≤ ((h.getD 0 (0, 0)).2) ∧ ((h.getD 0 (0, 0)).2) ≤ 1048576)) from ⟨by omega, by rfl, by rfl, by exact hfh 0, by exact hfh 0⟩)
  obtain ⟨k, ax, ay, bx, b_y⟩ := i
  have hi1' : (k ≤ h.length - 1) ∧ ((ax, ay) = Sp.seA h (x, y) k) ∧ ((bx, b_y) = Sp.seB h (x, y) k) ∧ ((-1048576 ≤ ax ∧ ax ≤ 1048576) ∧ (-1048576 ≤ ay ∧ ay ≤ 1048576)) ∧ ((-1048576 ≤ bx ∧ bx ≤ 1048576) ∧ (-1048576 ≤ b_y ∧ b_y ≤ 1048576)) := hi1
  obtain ⟨hk, hA, hB, ba, bb⟩ := hi1'
  show AL _ _ _ (mkSt 1 [(3, .pointer (some ⟨1, 0, none⟩)), (4, .pointer (some ⟨2, 0, none⟩)), (5, .pointer (some ⟨3, 0, none⟩)), (6, .int .i64 0), (8, .pointer (some ⟨5, 0, none⟩)), (9, .pointer (some ⟨6, 0, none⟩)), (35, .slice (some ⟨4, 2, none⟩) (h.length - 1) 0), (36, .int .i64 (((h.length - 1) : Nat) : Int)), (37, .int .i64 ((k : Nat) : Int))] [(0, ⟨(ps.flatMap ptc), 29, false, 2⟩), (1, ⟨[.int .i64 x, .int .i64 y], 29, true, 2⟩), (2, ⟨[.int .i64 0, .int .i64 0], 29, true, 2⟩), (3, ⟨[.int .i64 0, .int .i64 0], 29, true, 2⟩), (4, ⟨(h.flatMap ptc), 29, true, 2⟩), (5, ⟨[.int .i64 ax, .int .i64 ay], 29, true, 2⟩), (6, ⟨[.int .i64 bx, .int .i64 b_y], 29, true, 2⟩)]) _
  have fq := hfh (1 + k)
  refine al_round ?_
  refine aw_p 4079 (
    .a 1 7 <| .nil _ _) ?_
  refine aw_sq 8158 8159 ?_
  refine aw_cd 16316 16317 (decide (((k : Nat) : Int) < (((h.length - 1) : Nat) : Int))) (fun h1 => ?_) (fun h1 => ?_)
  · have h1p : ((((k : Nat) : Int) < (((h.length - 1) : Nat) : Int))) := by first | (simpa using h1) | (have h1q := h1; simp at h1q; omega) | (have h1q := bx1 h1; simp at h1q; omega)
    refine aw_sk ?_
    refine then_normal ?_
    refine aw_sq 16318 16319 ?_
    refine aw_bl 1 32637 ?_
    refine aw_p 65275 (
      .p (does_indexSlice (t := 24) (x := .tmp 35) (y := .tmp 37) (k := 4) (off := 2) (n := (h.length - 1)) (c := 0) (z := 2) (kd := .i64) (j := ((k : Nat) : Int)) (by kernel_rfl) (by kernel_rfl) (by kernel_rfl) (by kernel_rfl) (by kernel_rfl) (by omega) (by omega)) <|
      .p (does_load (t := 29) (x := .tmp 39) (k := 4) (off := (2 + (((k : Nat) : Int)).toNat * 2)) (b := ⟨(h.flatMap ptc), 29, true, 2⟩) (v := .agg #[.int .i64 ((h.getD (1 + k) (0, 0)).1), .int .i64 ((h.getD (1 + k) (0, 0)).2)]) (by kernel_rfl) (by kernel_rfl) (by kernel_rfl) (ldV_pair (j := (1 + k)) (by kernel_rfl) (by kernel_rfl) (by omega) (by omega))) <|
      .a 2 7 <| .nil _ _) ?_
    refine aw_sq 130550 130551 ?_
    refine aw_p 261101 (
      .a 3 8 <| .p (does_c (turn_in x y ax ay ((h.getD (1 + k) (0, 0)).1) ((h.getD (1 + k) (0, 0)).2) (by omega) (by omega) (by omega) (by omega) (by omega) (by omega) (by omega) (by omega) (by omega) (by omega) (by omega) (by omega))) <| .a 1 8 <| .nil _ _) ?_
    rcases Bool.eq_false_or_eq_true (decide ((Sp.cmp (Sp.crs x y ax ay ((h.getD (1 + k) (0, 0)).1) ((h.getD (1 + k) (0, 0)).2)) 0) < 0)) with h2 | h2
    · have h2p : (((Sp.cmp (Sp.crs x y ax ay ((h.getD (1 + k) (0, 0)).1) ((h.getD (1 + k) (0, 0)).2)) 0) < 0)) := by first | (simpa using h2) | (have h2q := h2; simp at h2q; omega) | (have h2q := bx1 h2; simp at h2q; omega)
      refine aw_d 522203 (
        .a 1 8 <| .p (does_b true (h2)) <| .a 13 8 <| .nil _ _) ?_
      refine aw_tr 1044406 ?_
      refine aw_p1 (
        .a 2 8 <| .nil _ _) ?_
      refine then_normal ?_
      refine aw_p 261103 (
        .a 3 8 <| .p (does_c (turn_in x y bx b_y ((h.getD (1 + k) (0, 0)).1) ((h.getD (1 + k) (0, 0)).2) (by omega) (by omega) (by omega) (by omega) (by omega) (by omega) (by omega) (by omega) (by omega) (by omega) (by omega) (by omega))) <| .a 1 8 <| .nil _ _) ?_
      rcases Bool.eq_false_or_eq_true (decide ((Sp.cmp (Sp.crs x y bx b_y ((h.getD (1 + k) (0, 0)).1) ((h.getD (1 + k) (0, 0)).2)) 0) > 0)) with h4 | h4
      · have h4p : (((Sp.cmp (Sp.crs x y bx b_y ((h.getD (1 + k) (0, 0)).1) ((h.getD (1 + k) (0, 0)).2)) 0) > 0)) := by first | (simpa using h4) | (have h4q := h4; simp at h4q; omega) | (have h4q := bx1 h4; simp at h4q; omega)
        refine aw_d 522207 (
          .a 1 8 <| .p (does_b true (h4)) <| .a 13 8 <| .nil _ _) ?_
        refine aw_tr 1044414 ?_
        refine aw_p1 (
          .a 2 8 <| .nil _ _) ?_
        refine block_normal ?_
        refine then_normal ?_
        refine aw_p1 (
          .p (does_i (((k : Nat) : Int) + 1) (wrap_i64 (by omega) (by omega)) .i64) <| .a 1 8 <| .nil _ _) ?_
        refine then_normal ?_
        refine al_w [(3, .pointer (some ⟨1, 0, none⟩)), (4, .pointer (some ⟨2, 0, none⟩)), (5, .pointer (some ⟨3, 0, none⟩)), (6, .int .i64 0), (8, .pointer (some ⟨5, 0, none⟩)), (9, .pointer (some ⟨6, 0, none⟩)), (35, .slice (some ⟨4, 2, none⟩) (h.length - 1) 0), (36, .int .i64 (((h.length - 1) : Nat) : Int)), (37, .int .i64 (((k + 1) : Nat) : Int))] [(0, ⟨(ps.flatMap ptc), 29, false, 2⟩), (1, ⟨[.int .i64 x, .int .i64 y], 29, true, 2⟩), (2, ⟨[.int .i64 0, .int .i64 0], 29, true, 2⟩), (3, ⟨[.int .i64 0, .int .i64 0], 29, true, 2⟩), (4, ⟨(h.flatMap ptc), 29, true, 2⟩), (5, ⟨[.int .i64 ((h.getD (1 + k) (0, 0)).1), .int .i64 ((h.getD (1 + k) (0, 0)).2)], 29, true, 2⟩), (6, ⟨[.int .i64 ((h.getD (1 + k) (0, 0)).1), .int .i64 ((h.getD (1 + k) (0, 0)).2)], 29, true, 2⟩)] ?_ (hc := (by simp [closedB, valsB, valB, List.all_eq_true, List.mem_flatMap, List.mem_range, List.mem_map, i64v, ptc, flat1]; try (intros; simp [valsB, valB, flat1]); try decide))
        exact ih1 ((k + 1), ((h.getD (1 + k) (0, 0)).1), ((h.getD (1 + k) (0, 0)).2), ((h.getD (1 + k) (0, 0)).1), ((h.getD (1 + k) (0, 0)).2)) (show ((k + 1) ≤ h.length - 1) ∧ ((((h.getD (1 + k) (0, 0)).1), ((h.getD (1 + k) (0, 0)).2)) = Sp.seA h (x, y) (k + 1)) ∧ ((((h.getD (1 + k) (0, 0)).1), ((h.getD (1 + k) (0, 0)).2)) = Sp.seB h (x, y) (k + 1)) ∧ ((-1048576 ≤ ((h.getD (1 + k) (0, 0)).1) ∧ ((h.getD (1 + k) (0, 0)).1) ≤ 1048576) ∧ (-1048576 ≤ ((h.getD (1 + k) (0, 0)).2) ∧ ((h.getD (1 + k) (0, 0)).2) ≤ 1048576)) ∧ ((-1048576 ≤ ((h.getD (1 + k) (0, 0)).1) ∧ ((h.getD (1 + k) (0, 0)).1) ≤ 1048576) ∧ (-1048576 ≤ ((h.getD (1 + k) (0, 0)).2) ∧ ((h.getD (1 + k) (0, 0)).2) ≤ 1048576)) from ⟨by omega, by (first | exact Sp.seA_y1 hA (by assumption) | exact Sp.seA_y2 hA (by assumption) (by assumption) | exact Sp.seA_n2 hA (by assumption) (by assumption) | exact Sp.seA_n3 hA (by assumption) (by assumption)), by (first | exact Sp.seB_y1 hB (by assumption) | exact Sp.seB_y2 hB (by assumption) (by assumption) | exact Sp.seB_n2 hB (by assumption) (by assumption) | exact Sp.seB_n3 hB (by assumption) (by assumption)), by (first | exact ba | exact fq), by (first | exact bb | exact fq)⟩) (show h.length - 1 - (k + 1) < h.length - 1 - k from by omega)
      · have h4p : ¬ (((Sp.cmp (Sp.crs x y bx b_y ((h.getD (1 + k) (0, 0)).1) ((h.getD (1 + k) (0, 0)).2)) 0) > 0)) := by first | (simpa using h4) | (have h4q := h4; simp at h4q; omega) | (have h4q := bx2 h4; simp at h4q; omega)
        rcases Bool.eq_false_or_eq_true ((Sp.cmp (Sp.crs x y bx b_y ((h.getD (1 + k) (0, 0)).1) ((h.getD (1 + k) (0, 0)).2)) 0) == 0) with h5 | h5
        · have h5p : (((Sp.cmp (Sp.crs x y bx b_y ((h.getD (1 + k) (0, 0)).1) ((h.getD (1 + k) (0, 0)).2)) 0) = 0)) := by first | (simpa using h5) | (have h5q := h5; simp at h5q; omega) | (have h5q := bx1 h5; simp at h5q; omega)
          refine aw_d 522207 (
            .a 1 8 <| .p (does_b false (h4)) <| .a 2 8 <| .p (does_b true (h5)) <| .a 3 8 <| .p (does_c (sq_in x y ((h.getD (1 + k) (0, 0)).1) ((h.getD (1 + k) (0, 0)).2) (by omega) (by omega) (by omega) (by omega) (by omega) (by omega) (by omega) (by omega))) <| .a 2 8 <|
            .p (does_c (sq_in x y bx b_y (by omega) (by omega) (by omega) (by omega) (by omega) (by omega) (by omega) (by omega))) <| .a 3 8 <| .nil _ _) ?_
          refine aw_cd 1044414 1044415 (decide ((Sp.dot x y ((h.getD (1 + k) (0, 0)).1) ((h.getD (1 + k) (0, 0)).2) ((h.getD (1 + k) (0, 0)).1) ((h.getD (1 + k) (0, 0)).2)) < (Sp.dot x y bx b_y bx b_y))) (fun h6 => ?_) (fun h6 => ?_)
          · have h6p : (((Sp.dot x y ((h.getD (1 + k) (0, 0)).1) ((h.getD (1 + k) (0, 0)).2) ((h.getD (1 + k) (0, 0)).1) ((h.getD (1 + k) (0, 0)).2)) < (Sp.dot x y bx b_y bx b_y))) := by first | (simpa using h6) | (have h6q := h6; simp at h6q; omega) | (have h6q := bx1 h6; simp at h6q; omega)
            refine aw_p1 (
              .a 2 8 <| .nil _ _) ?_
            refine block_normal ?_
            refine then_normal ?_
            refine aw_p1 (
              .p (does_i (((k : Nat) : Int) + 1) (wrap_i64 (by omega) (by omega)) .i64) <| .a 1 8 <| .nil _ _) ?_
            refine then_normal ?_
            refine al_w [(3, .pointer (some ⟨1, 0, none⟩)), (4, .pointer (some ⟨2, 0, none⟩)), (5, .pointer (some ⟨3, 0, none⟩)), (6, .int .i64 0), (8, .pointer (some ⟨5, 0, none⟩)), (9, .pointer (some ⟨6, 0, none⟩)), (35, .slice (some ⟨4, 2, none⟩) (h.length - 1) 0), (36, .int .i64 (((h.length - 1) : Nat) : Int)), (37, .int .i64 (((k + 1) : Nat) : Int))] [(0, ⟨(ps.flatMap ptc), 29, false, 2⟩), (1, ⟨[.int .i64 x, .int .i64 y], 29, true, 2⟩), (2, ⟨[.int .i64 0, .int .i64 0], 29, true, 2⟩), (3, ⟨[.int .i64 0, .int .i64 0], 29, true, 2⟩), (4, ⟨(h.flatMap ptc), 29, true, 2⟩), (5, ⟨[.int .i64 ((h.getD (1 + k) (0, 0)).1), .int .i64 ((h.getD (1 + k) (0, 0)).2)], 29, true, 2⟩), (6, ⟨[.int .i64 ((h.getD (1 + k) (0, 0)).1), .int .i64 ((h.getD (1 + k) (0, 0)).2)], 29, true, 2⟩)] ?_ (hc := (by simp [closedB, valsB, valB, List.all_eq_true, List.mem_flatMap, List.mem_range, List.mem_map, i64v, ptc, flat1]; try (intros; simp [valsB, valB, flat1]); try decide))
            exact ih1 ((k + 1), ((h.getD (1 + k) (0, 0)).1), ((h.getD (1 + k) (0, 0)).2), ((h.getD (1 + k) (0, 0)).1), ((h.getD (1 + k) (0, 0)).2)) (show ((k + 1) ≤ h.length - 1) ∧ ((((h.getD (1 + k) (0, 0)).1), ((h.getD (1 + k) (0, 0)).2)) = Sp.seA h (x, y) (k + 1)) ∧ ((((h.getD (1 + k) (0, 0)).1), ((h.getD (1 + k) (0, 0)).2)) = Sp.seB h (x, y) (k + 1)) ∧ ((-1048576 ≤ ((h.getD (1 + k) (0, 0)).1) ∧ ((h.getD (1 + k) (0, 0)).1) ≤ 1048576) ∧ (-1048576 ≤ ((h.getD (1 + k) (0, 0)).2) ∧ ((h.getD (1 + k) (0, 0)).2) ≤ 1048576)) ∧ ((-1048576 ≤ ((h.getD (1 + k) (0, 0)).1) ∧ ((h.getD (1 + k) (0, 0)).1) ≤ 1048576) ∧ (-1048576 ≤ ((h.getD (1 + k) (0, 0)).2) ∧ ((h.getD (1 + k) (0, 0)).2) ≤ 1048576)) from ⟨by omega, by (first | exact Sp.seA_y1 hA (by assumption) | exact Sp.seA_y2 hA (by assumption) (by assumption) | exact Sp.seA_n2 hA (by assumption) (by assumption) | exact Sp.seA_n3 hA (by assumption) (by assumption)), by (first | exact Sp.seB_y1 hB (by assumption) | exact Sp.seB_y2 hB (by assumption) (by assumption) | exact Sp.seB_n2 hB (by assumption) (by assumption) | exact Sp.seB_n3 hB (by assumption) (by assumption)), by (first | exact ba | exact fq), by (first | exact bb | exact fq)⟩) (show h.length - 1 - (k + 1) < h.length - 1 - k from by omega)
          · have h6p : ¬ (((Sp.dot x y ((h.getD (1 + k) (0, 0)).1) ((h.getD (1 + k) (0, 0)).2) ((h.getD (1 + k) (0, 0)).1) ((h.getD (1 + k) (0, 0)).2)) < (Sp.dot x y bx b_y bx b_y))) := by first | (simpa using h6) | (have h6q := h6; simp at h6q; omega) | (have h6q := bx2 h6; simp at h6q; omega)
            refine aw_sk ?_
            refine block_normal ?_
            refine then_normal ?_
            refine aw_p1 (
              .p (does_i (((k : Nat) : Int) + 1) (wrap_i64 (by omega) (by omega)) .i64) <| .a 1 8 <| .nil _ _) ?_
            refine then_normal ?_
            refine al_w [(3, .pointer (some ⟨1, 0, none⟩)), (4, .pointer (some ⟨2, 0, none⟩)), (5, .pointer (some ⟨3, 0, none⟩)), (6, .int .i64 0), (8, .pointer (some ⟨5, 0, none⟩)), (9, .pointer (some ⟨6, 0, none⟩)), (35, .slice (some ⟨4, 2, none⟩) (h.length - 1) 0), (36, .int .i64 (((h.length - 1) : Nat) : Int)), (37, .int .i64 (((k + 1) : Nat) : Int))] [(0, ⟨(ps.flatMap ptc), 29, false, 2⟩), (1, ⟨[.int .i64 x, .int .i64 y], 29, true, 2⟩), (2, ⟨[.int .i64 0, .int .i64 0], 29, true, 2⟩), (3, ⟨[.int .i64 0, .int .i64 0], 29, true, 2⟩), (4, ⟨(h.flatMap ptc), 29, true, 2⟩), (5, ⟨[.int .i64 ((h.getD (1 + k) (0, 0)).1), .int .i64 ((h.getD (1 + k) (0, 0)).2)], 29, true, 2⟩), (6, ⟨[.int .i64 bx, .int .i64 b_y], 29, true, 2⟩)] ?_ (hc := (by simp [closedB, valsB, valB, List.all_eq_true, List.mem_flatMap, List.mem_range, List.mem_map, i64v, ptc, flat1]; try (intros; simp [valsB, valB, flat1]); try decide))
            exact ih1 ((k + 1), ((h.getD (1 + k) (0, 0)).1), ((h.getD (1 + k) (0, 0)).2), bx, b_y) (show ((k + 1) ≤ h.length - 1) ∧ ((((h.getD (1 + k) (0, 0)).1), ((h.getD (1 + k) (0, 0)).2)) = Sp.seA h (x, y) (k + 1)) ∧ ((bx, b_y) = Sp.seB h (x, y) (k + 1)) ∧ ((-1048576 ≤ ((h.getD (1 + k) (0, 0)).1) ∧ ((h.getD (1 + k) (0, 0)).1) ≤ 1048576) ∧ (-1048576 ≤ ((h.getD (1 + k) (0, 0)).2) ∧ ((h.getD (1 + k) (0, 0)).2) ≤ 1048576)) ∧ ((-1048576 ≤ bx ∧ bx ≤ 1048576) ∧ (-1048576 ≤ b_y ∧ b_y ≤ 1048576)) from ⟨by omega, by (first | exact Sp.seA_y1 hA (by assumption) | exact Sp.seA_y2 hA (by assumption) (by assumption) | exact Sp.seA_n2 hA (by assumption) (by assumption) | exact Sp.seA_n3 hA (by assumption) (by assumption)), by (first | exact Sp.seB_y1 hB (by assumption) | exact Sp.seB_y2 hB (by assumption) (by assumption) | exact Sp.seB_n2 hB (by assumption) (by assumption) | exact Sp.seB_n3 hB (by assumption) (by assumption)), by (first | exact ba | exact fq), by (first | exact bb | exact fq)⟩) (show h.length - 1 - (k + 1) < h.length - 1 - k from by omega)
        · have h5p : ¬ (((Sp.cmp (Sp.crs x y bx b_y ((h.getD (1 + k) (0, 0)).1) ((h.getD (1 + k) (0, 0)).2)) 0) = 0)) := by first | (simpa using h5) | (have h5q := h5; simp at h5q; omega) | (have h5q := bx2 h5; simp at h5q; omega)
          refine aw_d 522207 (
            .a 1 8 <| .p (does_b false (h4)) <| .a 2 8 <| .p (does_b false (h5)) <| .a 10 8 <| .nil _ _) ?_
          refine aw_fl 1044415 ?_
          refine aw_sk ?_
          refine block_normal ?_
          refine then_normal ?_
          refine aw_p1 (
            .p (does_i (((k : Nat) : Int) + 1) (wrap_i64 (by omega) (by omega)) .i64) <| .a 1 8 <| .nil _ _) ?_
          refine then_normal ?_
          refine al_w [(3, .pointer (some ⟨1, 0, none⟩)), (4, .pointer (some ⟨2, 0, none⟩)), (5, .pointer (some ⟨3, 0, none⟩)), (6, .int .i64 0), (8, .pointer (some ⟨5, 0, none⟩)), (9, .pointer (some ⟨6, 0, none⟩)), (35, .slice (some ⟨4, 2, none⟩) (h.length - 1) 0), (36, .int .i64 (((h.length - 1) : Nat) : Int)), (37, .int .i64 (((k + 1) : Nat) : Int))] [(0, ⟨(ps.flatMap ptc), 29, false, 2⟩), (1, ⟨[.int .i64 x, .int .i64 y], 29, true, 2⟩), (2, ⟨[.int .i64 0, .int .i64 0], 29, true, 2⟩), (3, ⟨[.int .i64 0, .int .i64 0], 29, true, 2⟩), (4, ⟨(h.flatMap ptc), 29, true, 2⟩), (5, ⟨[.int .i64 ((h.getD (1 + k) (0, 0)).1), .int .i64 ((h.getD (1 + k) (0, 0)).2)], 29, true, 2⟩), (6, ⟨[.int .i64 bx, .int .i64 b_y], 29, true, 2⟩)] ?_ (hc := (by simp [closedB, valsB, valB, List.all_eq_true, List.mem_flatMap, List.mem_range, List.mem_map, i64v, ptc, flat1]; try (intros; simp [valsB, valB, flat1]); try decide))
          exact ih1 ((k + 1), ((h.getD (1 + k) (0, 0)).1), ((h.getD (1 + k) (0, 0)).2), bx, b_y) (show ((k + 1) ≤ h.length - 1) ∧ ((((h.getD (1 + k) (0, 0)).1), ((h.getD (1 + k) (0, 0)).2)) = Sp.seA h (x, y) (k + 1)) ∧ ((bx, b_y) = Sp.seB h (x, y) (k + 1)) ∧ ((-1048576 ≤ ((h.getD (1 + k) (0, 0)).1) ∧ ((h.getD (1 + k) (0, 0)).1) ≤ 1048576) ∧ (-1048576 ≤ ((h.getD (1 + k) (0, 0)).2) ∧ ((h.getD (1 + k) (0, 0)).2) ≤ 1048576)) ∧ ((-1048576 ≤ bx ∧ bx ≤ 1048576) ∧ (-1048576 ≤ b_y ∧ b_y ≤ 1048576)) from ⟨by omega, by (first | exact Sp.seA_y1 hA (by assumption) | exact Sp.seA_y2 hA (by assumption) (by assumption) | exact Sp.seA_n2 hA (by assumption) (by assumption) | exact Sp.seA_n3 hA (by assumption) (by assumption)), by (first | exact Sp.seB_y1 hB (by assumption) | exact Sp.seB_y2 hB (by assumption) (by assumption) | exact Sp.seB_n2 hB (by assumption) (by assumption) | exact Sp.seB_n3 hB (by assumption) (by assumption)), by (first | exact ba | exact fq), by (first | exact bb | exact fq)⟩) (show h.length - 1 - (k + 1) < h.length - 1 - k from by omega)
    · have h2p : ¬ (((Sp.cmp (Sp.crs x y ax ay ((h.getD (1 + k) (0, 0)).1) ((h.getD (1 + k) (0, 0)).2)) 0) < 0)) := by first | (simpa using h2) | (have h2q := h2; simp at h2q; omega) | (have h2q := bx2 h2; simp at h2q; omega)
      rcases Bool.eq_false_or_eq_true ((Sp.cmp (Sp.crs x y ax ay ((h.getD (1 + k) (0, 0)).1) ((h.getD (1 + k) (0, 0)).2)) 0) == 0) with h3 | h3
      · have h3p : (((Sp.cmp (Sp.crs x y ax ay ((h.getD (1 + k) (0, 0)).1) ((h.getD (1 + k) (0, 0)).2)) 0) = 0)) := by first | (simpa using h3) | (have h3q := h3; simp at h3q; omega) | (have h3q := bx1 h3; simp at h3q; omega)
        refine aw_d 522203 (
          .a 1 8 <| .p (does_b false (h2)) <| .a 2 8 <| .p (does_b true (h3)) <| .a 3 8 <| .p (does_c (sq_in x y ((h.getD (1 + k) (0, 0)).1) ((h.getD (1 + k) (0, 0)).2) (by omega) (by omega) (by omega) (by omega) (by omega) (by omega) (by omega) (by omega))) <| .a 2 8 <|
          .p (does_c (sq_in x y ax ay (by omega) (by omega) (by omega) (by omega) (by omega) (by omega) (by omega) (by omega))) <| .a 3 8 <| .nil _ _) ?_
        refine aw_cd 1044406 1044407 (decide ((Sp.dot x y ((h.getD (1 + k) (0, 0)).1) ((h.getD (1 + k) (0, 0)).2) ((h.getD (1 + k) (0, 0)).1) ((h.getD (1 + k) (0, 0)).2)) < (Sp.dot x y ax ay ax ay))) (fun h7 => ?_) (fun h7 => ?_)
        · have h7p : (((Sp.dot x y ((h.getD (1 + k) (0, 0)).1) ((h.getD (1 + k) (0, 0)).2) ((h.getD (1 + k) (0, 0)).1) ((h.getD (1 + k) (0, 0)).2)) < (Sp.dot x y ax ay ax ay))) := by first | (simpa using h7) | (have h7q := h7; simp at h7q; omega) | (have h7q := bx1 h7; simp at h7q; omega)
          refine aw_p1 (
            .a 2 8 <| .nil _ _) ?_
          refine then_normal ?_
          refine aw_p 261103 (
            .a 3 8 <| .p (does_c (turn_in x y bx b_y ((h.getD (1 + k) (0, 0)).1) ((h.getD (1 + k) (0, 0)).2) (by omega) (by omega) (by omega) (by omega) (by omega) (by omega) (by omega) (by omega) (by omega) (by omega) (by omega) (by omega))) <| .a 1 8 <| .nil _ _) ?_
          rcases Bool.eq_false_or_eq_true (decide ((Sp.cmp (Sp.crs x y bx b_y ((h.getD (1 + k) (0, 0)).1) ((h.getD (1 + k) (0, 0)).2)) 0) > 0)) with h8 | h8
          · have h8p : (((Sp.cmp (Sp.crs x y bx b_y ((h.getD (1 + k) (0, 0)).1) ((h.getD (1 + k) (0, 0)).2)) 0) > 0)) := by first | (simpa using h8) | (have h8q := h8; simp at h8q; omega) | (have h8q := bx1 h8; simp at h8q; omega)
            refine aw_d 522207 (
              .a 1 8 <| .p (does_b true (h8)) <| .a 13 8 <| .nil _ _) ?_
            refine aw_tr 1044414 ?_
            refine aw_p1 (
              .a 2 8 <| .nil _ _) ?_
            refine block_normal ?_
            refine then_normal ?_
            refine aw_p1 (
              .p (does_i (((k : Nat) : Int) + 1) (wrap_i64 (by omega) (by omega)) .i64) <| .a 1 8 <| .nil _ _) ?_
            refine then_normal ?_
            refine al_w [(3, .pointer (some ⟨1, 0, none⟩)), (4, .pointer (some ⟨2, 0, none⟩)), (5, .pointer (some ⟨3, 0, none⟩)), (6, .int .i64 0), (8, .pointer (some ⟨5, 0, none⟩)), (9, .pointer (some ⟨6, 0, none⟩)), (35, .slice (some ⟨4, 2, none⟩) (h.length - 1) 0), (36, .int .i64 (((h.length - 1) : Nat) : Int)), (37, .int .i64 (((k + 1) : Nat) : Int))] [(0, ⟨(ps.flatMap ptc), 29, false, 2⟩), (1, ⟨[.int .i64 x, .int .i64 y], 29, true, 2⟩), (2, ⟨[.int .i64 0, .int .i64 0], 29, true, 2⟩), (3, ⟨[.int .i64 0, .int .i64 0], 29, true, 2⟩), (4, ⟨(h.flatMap ptc), 29, true, 2⟩), (5, ⟨[.int .i64 ((h.getD (1 + k) (0, 0)).1), .int .i64 ((h.getD (1 + k) (0, 0)).2)], 29, true, 2⟩), (6, ⟨[.int .i64 ((h.getD (1 + k) (0, 0)).1), .int .i64 ((h.getD (1 + k) (0, 0)).2)], 29, true, 2⟩)] ?_ (hc := (by simp [closedB, valsB, valB, List.all_eq_true, List.mem_flatMap, List.mem_range, List.mem_map, i64v, ptc, flat1]; try (intros; simp [valsB, valB, flat1]); try decide))
            exact ih1 ((k + 1), ((h.getD (1 + k) (0, 0)).1), ((h.getD (1 + k) (0, 0)).2), ((h.getD (1 + k) (0, 0)).1), ((h.getD (1 + k) (0, 0)).2)) (show ((k + 1) ≤ h.length - 1) ∧ ((((h.getD (1 + k) (0, 0)).1), ((h.getD (1 + k) (0, 0)).2)) = Sp.seA h (x, y) (k + 1)) ∧ ((((h.getD (1 + k) (0, 0)).1), ((h.getD (1 + k) (0, 0)).2)) = Sp.seB h (x, y) (k + 1)) ∧ ((-1048576 ≤ ((h.getD (1 + k) (0, 0)).1) ∧ ((h.getD (1 + k) (0, 0)).1) ≤ 1048576) ∧ (-1048576 ≤ ((h.getD (1 + k) (0, 0)).2) ∧ ((h.getD (1 + k) (0, 0)).2) ≤ 1048576)) ∧ ((-1048576 ≤ ((h.getD (1 + k) (0, 0)).1) ∧ ((h.getD (1 + k) (0, 0)).1) ≤ 1048576) ∧ (-1048576 ≤ ((h.getD (1 + k) (0, 0)).2) ∧ ((h.getD (1 + k) (0, 0)).2) ≤ 1048576)) from ⟨by omega, by (first | exact Sp.seA_y1 hA (by assumption) | exact Sp.seA_y2 hA (by assumption) (by assumption) | exact Sp.seA_n2 hA (by assumption) (by assumption) | exact Sp.seA_n3 hA (by assumption) (by assumption)), by (first | exact Sp.seB_y1 hB (by assumption) | exact Sp.seB_y2 hB (by assumption) (by assumption) | exact Sp.seB_n2 hB (by assumption) (by assumption) | exact Sp.seB_n3 hB (by assumption) (by assumption)), by (first | exact ba | exact fq), by (first | exact bb | exact fq)⟩) (show h.length - 1 - (k + 1) < h.length - 1 - k from by omega)
          · have h8p : ¬ (((Sp.cmp (Sp.crs x y bx b_y ((h.getD (1 + k) (0, 0)).1) ((h.getD (1 + k) (0, 0)).2)) 0) > 0)) := by first | (simpa using h8) | (have h8q := h8; simp at h8q; omega) | (have h8q := bx2 h8; simp at h8q; omega)
            rcases Bool.eq_false_or_eq_true ((Sp.cmp (Sp.crs x y bx b_y ((h.getD (1 + k) (0, 0)).1) ((h.getD (1 + k) (0, 0)).2)) 0) == 0) with h9 | h9
            · have h9p : (((Sp.cmp (Sp.crs x y bx b_y ((h.getD (1 + k) (0, 0)).1) ((h.getD (1 + k) (0, 0)).2)) 0) = 0)) := by first | (simpa using h9) | (have h9q := h9; simp at h9q; omega) | (have h9q := bx1 h9; simp at h9q; omega)
              refine aw_d 522207 (
                .a 1 8 <| .p (does_b false (h8)) <| .a 2 8 <| .p (does_b true (h9)) <| .a 3 8 <| .p (does_c (sq_in x y ((h.getD (1 + k) (0, 0)).1) ((h.getD (1 + k) (0, 0)).2) (by omega) (by omega) (by omega) (by omega) (by omega) (by omega) (by omega) (by omega))) <| .a 2 8 <|
                .p (does_c (sq_in x y bx b_y (by omega) (by omega) (by omega) (by omega) (by omega) (by omega) (by omega) (by omega))) <| .a 3 8 <| .nil _ _) ?_
              refine aw_cd 1044414 1044415 (decide ((Sp.dot x y ((h.getD (1 + k) (0, 0)).1) ((h.getD (1 + k) (0, 0)).2) ((h.getD (1 + k) (0, 0)).1) ((h.getD (1 + k) (0, 0)).2)) < (Sp.dot x y bx b_y bx b_y))) (fun h10 => ?_) (fun h10 => ?_)
              · have h10p : (((Sp.dot x y ((h.getD (1 + k) (0, 0)).1) ((h.getD (1 + k) (0, 0)).2) ((h.getD (1 + k) (0, 0)).1) ((h.getD (1 + k) (0, 0)).2)) < (Sp.dot x y bx b_y bx b_y))) := by first | (simpa using h10) | (have h10q := h10; simp at h10q; omega) | (have h10q := bx1 h10; simp at h10q; omega)
                refine aw_p1 (
                  .a 2 8 <| .nil _ _) ?_
                refine block_normal ?_
                refine then_normal ?_
                refine aw_p1 (
                  .p (does_i (((k : Nat) : Int) + 1) (wrap_i64 (by omega) (by omega)) .i64) <| .a 1 8 <| .nil _ _) ?_
                refine then_normal ?_
                refine al_w [(3, .pointer (some ⟨1, 0, none⟩)), (4, .pointer (some ⟨2, 0, none⟩)), (5, .pointer (some ⟨3, 0, none⟩)), (6, .int .i64 0), (8, .pointer (some ⟨5, 0, none⟩)), (9, .pointer (some ⟨6, 0, none⟩)), (35, .slice (some ⟨4, 2, none⟩) (h.length - 1) 0), (36, .int .i64 (((h.length - 1) : Nat) : Int)), (37, .int .i64 (((k + 1) : Nat) : Int))] [(0, ⟨(ps.flatMap ptc), 29, false, 2⟩), (1, ⟨[.int .i64 x, .int .i64 y], 29, true, 2⟩), (2, ⟨[.int .i64 0, .int .i64 0], 29, true, 2⟩), (3, ⟨[.int .i64 0, .int .i64 0], 29, true, 2⟩), (4, ⟨(h.flatMap ptc), 29, true, 2⟩), (5, ⟨[.int .i64 ((h.getD (1 + k) (0, 0)).1), .int .i64 ((h.getD (1 + k) (0, 0)).2)], 29, true, 2⟩), (6, ⟨[.int .i64 ((h.getD (1 + k) (0, 0)).1), .int .i64 ((h.getD (1 + k) (0, 0)).2)], 29, true, 2⟩)] ?_ (hc := (by simp [closedB, valsB, valB, List.all_eq_true, List.mem_flatMap, List.mem_range, List.mem_map, i64v, ptc, flat1]; try (intros; simp [valsB, valB, flat1]); try decide))
                exact ih1 ((k + 1), ((h.getD (1 + k) (0, 0)).1), ((h.getD (1 + k) (0, 0)).2), ((h.getD (1 + k) (0, 0)).1), ((h.getD (1 + k) (0, 0)).2)) (show ((k + 1) ≤ h.length - 1) ∧ ((((h.getD (1 + k) (0, 0)).1), ((h.getD (1 + k) (0, 0)).2)) = Sp.seA h (x, y) (k + 1)) ∧ ((((h.getD (1 + k) (0, 0)).1), ((h.getD (1 + k) (0, 0)).2)) = Sp.seB h (x, y) (k + 1)) ∧ ((-1048576 ≤ ((h.getD (1 + k) (0, 0)).1) ∧ ((h.getD (1 + k) (0, 0)).1) ≤ 1048576) ∧ (-1048576 ≤ ((h.getD (1 + k) (0, 0)).2) ∧ ((h.getD (1 + k) (0, 0)).2) ≤ 1048576)) ∧ ((-1048576 ≤ ((h.getD (1 + k) (0, 0)).1) ∧ ((h.getD (1 + k) (0, 0)).1) ≤ 1048576) ∧ (-1048576 ≤ ((h.getD (1 + k) (0, 0)).2) ∧ ((h.getD (1 + k) (0, 0)).2) ≤ 1048576)) from ⟨by omega, by (first | exact Sp.seA_y1 hA (by assumption) | exact Sp.seA_y2 hA (by assumption) (by assumption) | exact Sp.seA_n2 hA (by assumption) (by assumption) | exact Sp.seA_n3 hA (by assumption) (by assumption)), by (first | exact Sp.seB_y1 hB (by assumption) | exact Sp.seB_y2 hB (by assumption) (by assumption) | exact Sp.seB_n2 hB (by assumption) (by assumption) | exact Sp.seB_n3 hB (by assumption) (by assumption)), by (first | exact ba | exact fq), by (first | exact bb | exact fq)⟩) (show h.length - 1 - (k + 1) < h.length - 1 - k from by omega)
              · have h10p : ¬ (((Sp.dot x y ((h.getD (1 + k) (0, 0)).1) ((h.getD (1 + k) (0, 0)).2) ((h.getD (1 + k) (0, 0)).1) ((h.getD (1 + k) (0, 0)).2)) < (Sp.dot x y bx b_y bx b_y))) := by first | (simpa using h10) | (have h10q := h10; simp at h10q; omega) | (have h10q := bx2 h10; simp at h10q; omega)
                refine aw_sk ?_
                refine block_normal ?_
                refine then_normal ?_
                refine aw_p1 (
                  .p (does_i (((k : Nat) : Int) + 1) (wrap_i64 (by omega) (by omega)) .i64) <| .a 1 8 <| .nil _ _) ?_
                refine then_normal ?_
                refine al_w [(3, .pointer (some ⟨1, 0, none⟩)), (4, .pointer (some ⟨2, 0, none⟩)), (5, .pointer (some ⟨3, 0, none⟩)), (6, .int .i64 0), (8, .pointer (some ⟨5, 0, none⟩)), (9, .pointer (some ⟨6, 0, none⟩)), (35, .slice (some ⟨4, 2, none⟩) (h.length - 1) 0), (36, .int .i64 (((h.length - 1) : Nat) : Int)), (37, .int .i64 (((k + 1) : Nat) : Int))] [(0, ⟨(ps.flatMap ptc), 29, false, 2⟩), (1, ⟨[.int .i64 x, .int .i64 y], 29, true, 2⟩), (2, ⟨[.int .i64 0, .int .i64 0], 29, true, 2⟩), (3, ⟨[.int .i64 0, .int .i64 0], 29, true, 2⟩), (4, ⟨(h.flatMap ptc), 29, true, 2⟩), (5, ⟨[.int .i64 ((h.getD (1 + k) (0, 0)).1), .int .i64 ((h.getD (1 + k) (0, 0)).2)], 29, true, 2⟩), (6, ⟨[.int .i64 bx, .int .i64 b_y], 29, true, 2⟩)] ?_ (hc := (by simp [closedB, valsB, valB, List.all_eq_true, List.mem_flatMap, List.mem_range, List.mem_map, i64v, ptc, flat1]; try (intros; simp [valsB, valB, flat1]); try decide))
                exact ih1 ((k + 1), ((h.getD (1 + k) (0, 0)).1), ((h.getD (1 + k) (0, 0)).2), bx, b_y) (show ((k + 1) ≤ h.length - 1) ∧ ((((h.getD (1 + k) (0, 0)).1), ((h.getD (1 + k) (0, 0)).2)) = Sp.seA h (x, y) (k + 1)) ∧ ((bx, b_y) = Sp.seB h (x, y) (k + 1)) ∧ ((-1048576 ≤ ((h.getD (1 + k) (0, 0)).1) ∧ ((h.getD (1 + k) (0, 0)).1) ≤ 1048576) ∧ (-1048576 ≤ ((h.getD (1 + k) (0, 0)).2) ∧ ((h.getD (1 + k) (0, 0)).2) ≤ 1048576)) ∧ ((-1048576 ≤ bx ∧ bx ≤ 1048576) ∧ (-1048576 ≤ b_y ∧ b_y ≤ 1048576)) from ⟨by omega, by (first | exact Sp.seA_y1 hA (by assumption) | exact Sp.seA_y2 hA (by assumption) (by assumption) | exact Sp.seA_n2 hA (by assumption) (by assumption) | exact Sp.seA_n3 hA (by assumption) (by assumption)), by (first | exact Sp.seB_y1 hB (by assumption) | exact Sp.seB_y2 hB (by assumption) (by assumption) | exact Sp.seB_n2 hB (by assumption) (by assumption) | exact Sp.seB_n3 hB (by assumption) (by assumption)), by (first | exact ba | exact fq), by (first | exact bb | exact fq)⟩) (show h.length - 1 - (k + 1) < h.length - 1 - k from by omega)
            · have h9p : ¬ (((Sp.cmp (Sp.crs x y bx b_y ((h.getD (1 + k) (0, 0)).1) ((h.getD (1 + k) (0, 0)).2)) 0) = 0)) := by first | (simpa using h9) | (have h9q := h9; simp at h9q; omega) | (have h9q := bx2 h9; simp at h9q; omega)
              refine aw_d 522207 (
                .a 1 8 <| .p (does_b false (h8)) <| .a 2 8 <| .p (does_b false (h9)) <| .a 10 8 <| .nil _ _) ?_
              refine aw_fl 1044415 ?_
              refine aw_sk ?_
              refine block_normal ?_
              refine then_normal ?_
              refine aw_p1 (
                .p (does_i (((k : Nat) : Int) + 1) (wrap_i64 (by omega) (by omega)) .i64) <| .a 1 8 <| .nil _ _) ?_
              refine then_normal ?_
              refine al_w [(3, .pointer (some ⟨1, 0, none⟩)), (4, .pointer (some ⟨2, 0, none⟩)), (5, .pointer (some ⟨3, 0, none⟩)), (6, .int .i64 0), (8, .pointer (some ⟨5, 0, none⟩)), (9, .pointer (some ⟨6, 0, none⟩)), (35, .slice (some ⟨4, 2, none⟩) (h.length - 1) 0), (36, .int .i64 (((h.length - 1) : Nat) : Int)), (37, .int .i64 (((k + 1) : Nat) : Int))] [(0, ⟨(ps.flatMap ptc), 29, false, 2⟩), (1, ⟨[.int .i64 x, .int .i64 y], 29, true, 2⟩), (2, ⟨[.int .i64 0, .int .i64 0], 29, true, 2⟩), (3, ⟨[.int .i64 0, .int .i64 0], 29, true, 2⟩), (4, ⟨(h.flatMap ptc), 29, true, 2⟩), (5, ⟨[.int .i64 ((h.getD (1 + k) (0, 0)).1), .int .i64 ((h.getD (1 + k) (0, 0)).2)], 29, true, 2⟩), (6, ⟨[.int .i64 bx, .int .i64 b_y], 29, true, 2⟩)] ?_ (hc := (by simp [closedB, valsB, valB, List.all_eq_true, List.mem_flatMap, List.mem_range, List.mem_map, i64v, ptc, flat1]; try (intros; simp [valsB, valB, flat1]); try decide))
              exact ih1 ((k + 1), ((h.getD (1 + k) (0, 0)).1), ((h.getD (1 + k) (0, 0)).2), bx, b_y) (show ((k + 1) ≤ h.length - 1) ∧ ((((h.getD (1 + k) (0, 0)).1), ((h.getD (1 + k) (0, 0)).2)) = Sp.seA h (x, y) (k + 1)) ∧ ((bx, b_y) = Sp.seB h (x, y) (k + 1)) ∧ ((-1048576 ≤ ((h.getD (1 + k) (0, 0)).1) ∧ ((h.getD (1 + k) (0, 0)).1) ≤ 1048576) ∧ (-1048576 ≤ ((h.getD (1 + k) (0, 0)).2) ∧ ((h.getD (1 + k) (0, 0)).2) ≤ 1048576)) ∧ ((-1048576 ≤ bx ∧ bx ≤ 1048576) ∧ (-1048576 ≤ b_y ∧ b_y ≤ 1048576)) from ⟨by omega, by (first | exact Sp.seA_y1 hA (by assumption) | exact Sp.seA_y2 hA (by assumption) (by assumption) | exact Sp.seA_n2 hA (by assumption) (by assumption) | exact Sp.seA_n3 hA (by assumption) (by assumption)), by (first | exact Sp.seB_y1 hB (by assumption) | exact Sp.seB_y2 hB (by assumption) (by assumption) | exact Sp.seB_n2 hB (by assumption) (by assumption) | exact Sp.seB_n3 hB (by assumption) (by assumption)), by (first | exact ba | exact fq), by (first | exact bb | exact fq)⟩) (show h.length - 1 - (k + 1) < h.length - 1 - k from by omega)
        · have h7p : ¬ (((Sp.dot x y ((h.getD (1 + k) (0, 0)).1) ((h.getD (1 + k) (0, 0)).2) ((h.getD (1 + k) (0, 0)).1) ((h.getD (1 + k) (0, 0)).2)) < (Sp.dot x y ax ay ax ay))) := by first | (simpa using h7) | (have h7q := h7; simp at h7q; omega) | (have h7q := bx2 h7; simp at h7q; omega)
          refine aw_sk ?_
          refine then_normal ?_
          refine aw_p 261103 (
            .a 3 8 <| .p (does_c (turn_in x y bx b_y ((h.getD (1 + k) (0, 0)).1) ((h.getD (1 + k) (0, 0)).2) (by omega) (by omega) (by omega) (by omega) (by omega) (by omega) (by omega) (by omega) (by omega) (by omega) (by omega) (by omega))) <| .a 1 8 <| .nil _ _) ?_
          rcases Bool.eq_false_or_eq_true (decide ((Sp.cmp (Sp.crs x y bx b_y ((h.getD (1 + k) (0, 0)).1) ((h.getD (1 + k) (0, 0)).2)) 0) > 0)) with h11 | h11
          · have h11p : (((Sp.cmp (Sp.crs x y bx b_y ((h.getD (1 + k) (0, 0)).1) ((h.getD (1 + k) (0, 0)).2)) 0) > 0)) := by first | (simpa using h11) | (have h11q := h11; simp at h11q; omega) | (have h11q := bx1 h11; simp at h11q; omega)
            refine aw_d 522207 (
              .a 1 8 <| .p (does_b true (h11)) <| .a 13 8 <| .nil _ _) ?_
            refine aw_tr 1044414 ?_
            refine aw_p1 (
              .a 2 8 <| .nil _ _) ?_
            refine block_normal ?_
            refine then_normal ?_
            refine aw_p1 (
              .p (does_i (((k : Nat) : Int) + 1) (wrap_i64 (by omega) (by omega)) .i64) <| .a 1 8 <| .nil _ _) ?_
            refine then_normal ?_
            refine al_w [(3, .pointer (some ⟨1, 0, none⟩)), (4, .pointer (some ⟨2, 0, none⟩)), (5, .pointer (some ⟨3, 0, none⟩)), (6, .int .i64 0), (8, .pointer (some ⟨5, 0, none⟩)), (9, .pointer (some ⟨6, 0, none⟩)), (35, .slice (some ⟨4, 2, none⟩) (h.length - 1) 0), (36, .int .i64 (((h.length - 1) : Nat) : Int)), (37, .int .i64 (((k + 1) : Nat) : Int))] [(0, ⟨(ps.flatMap ptc), 29, false, 2⟩), (1, ⟨[.int .i64 x, .int .i64 y], 29, true, 2⟩), (2, ⟨[.int .i64 0, .int .i64 0], 29, true, 2⟩), (3, ⟨[.int .i64 0, .int .i64 0], 29, true, 2⟩), (4, ⟨(h.flatMap ptc), 29, true, 2⟩), (5, ⟨[.int .i64 ax, .int .i64 ay], 29, true, 2⟩), (6, ⟨[.int .i64 ((h.getD (1 + k) (0, 0)).1), .int .i64 ((h.getD (1 + k) (0, 0)).2)], 29, true, 2⟩)] ?_ (hc := (by simp [closedB, valsB, valB, List.all_eq_true, List.mem_flatMap, List.mem_range, List.mem_map, i64v, ptc, flat1]; try (intros; simp [valsB, valB, flat1]); try decide))
            exact ih1 ((k + 1), ax, ay, ((h.getD (1 + k) (0, 0)).1), ((h.getD (1 + k) (0, 0)).2)) (show ((k + 1) ≤ h.length - 1) ∧ ((ax, ay) = Sp.seA h (x, y) (k + 1)) ∧ ((((h.getD (1 + k) (0, 0)).1), ((h.getD (1 + k) (0, 0)).2)) = Sp.seB h (x, y) (k + 1)) ∧ ((-1048576 ≤ ax ∧ ax ≤ 1048576) ∧ (-1048576 ≤ ay ∧ ay ≤ 1048576)) ∧ ((-1048576 ≤ ((h.getD (1 + k) (0, 0)).1) ∧ ((h.getD (1 + k) (0, 0)).1) ≤ 1048576) ∧ (-1048576 ≤ ((h.getD (1 + k) (0, 0)).2) ∧ ((h.getD (1 + k) (0, 0)).2) ≤ 1048576)) from ⟨by omega, by (first | exact Sp.seA_y1 hA (by assumption) | exact Sp.seA_y2 hA (by assumption) (by assumption) | exact Sp.seA_n2 hA (by assumption) (by assumption) | exact Sp.seA_n3 hA (by assumption) (by assumption)), by (first | exact Sp.seB_y1 hB (by assumption) | exact Sp.seB_y2 hB (by assumption) (by assumption) | exact Sp.seB_n2 hB (by assumption) (by assumption) | exact Sp.seB_n3 hB (by assumption) (by assumption)), by (first | exact ba | exact fq), by (first | exact bb | exact fq)⟩) (show h.length - 1 - (k + 1) < h.length - 1 - k from by omega)
          · have h11p : ¬ (((Sp.cmp (Sp.crs x y bx b_y ((h.getD (1 + k) (0, 0)).1) ((h.getD (1 + k) (0, 0)).2)) 0) > 0)) := by first | (simpa using h11) | (have h11q := h11; simp at h11q; omega) | (have h11q := bx2 h11; simp at h11q; omega)
            rcases Bool.eq_false_or_eq_true ((Sp.cmp (Sp.crs x y bx b_y ((h.getD (1 + k) (0, 0)).1) ((h.getD (1 + k) (0, 0)).2)) 0) == 0) with h12 | h12
            · have h12p : (((Sp.cmp (Sp.crs x y bx b_y ((h.getD (1 + k) (0, 0)).1) ((h.getD (1 + k) (0, 0)).2)) 0) = 0)) := by first | (simpa using h12) | (have h12q := h12; simp at h12q; omega) | (have h12q := bx1 h12; simp at h12q; omega)
              refine aw_d 522207 (
                .a 1 8 <| .p (does_b false (h11)) <| .a 2 8 <| .p (does_b true (h12)) <| .a 3 8 <| .p (does_c (sq_in x y ((h.getD (1 + k) (0, 0)).1) ((h.getD (1 + k) (0, 0)).2) (by omega) (by omega) (by omega) (by omega) (by omega) (by omega) (by omega) (by omega))) <| .a 2 8 <|
                .p (does_c (sq_in x y bx b_y (by omega) (by omega) (by omega) (by omega) (by omega) (by omega) (by omega) (by omega))) <| .a 3 8 <| .nil _ _) ?_
              refine aw_cd 1044414 1044415 (decide ((Sp.dot x y ((h.getD (1 + k) (0, 0)).1) ((h.getD (1 + k) (0, 0)).2) ((h.getD (1 + k) (0, 0)).1) ((h.getD (1 + k) (0, 0)).2)) < (Sp.dot x y bx b_y bx b_y))) (fun h13 => ?_) (fun h13 => ?_)
              · have h13p : (((Sp.dot x y ((h.getD (1 + k) (0, 0)).1) ((h.getD (1 + k) (0, 0)).2) ((h.getD (1 + k) (0, 0)).1) ((h.getD (1 + k) (0, 0)).2)) < (Sp.dot x y bx b_y bx b_y))) := by first | (simpa using h13) | (have h13q := h13; simp at h13q; omega) | (have h13q := bx1 h13; simp at h13q; omega)
                refine aw_p1 (
                  .a 2 8 <| .nil _ _) ?_
                refine block_normal ?_
                refine then_normal ?_
                refine aw_p1 (
                  .p (does_i (((k : Nat) : Int) + 1) (wrap_i64 (by omega) (by omega)) .i64) <| .a 1 8 <| .nil _ _) ?_
                refine then_normal ?_
                refine al_w [(3, .pointer (some ⟨1, 0, none⟩)), (4, .pointer (some ⟨2, 0, none⟩)), (5, .pointer (some ⟨3, 0, none⟩)), (6, .int .i64 0), (8, .pointer (some ⟨5, 0, none⟩)), (9, .pointer (some ⟨6, 0, none⟩)), (35, .slice (some ⟨4, 2, none⟩) (h.length - 1) 0), (36, .int .i64 (((h.length - 1) : Nat) : Int)), (37, .int .i64 (((k + 1) : Nat) : Int))] [(0, ⟨(ps.flatMap ptc), 29, false, 2⟩), (1, ⟨[.int .i64 x, .int .i64 y], 29, true, 2⟩), (2, ⟨[.int .i64 0, .int .i64 0], 29, true, 2⟩), (3, ⟨[.int .i64 0, .int .i64 0], 29, true, 2⟩), (4, ⟨(h.flatMap ptc), 29, true, 2⟩), (5, ⟨[.int .i64 ax, .int .i64 ay], 29, true, 2⟩), (6, ⟨[.int .i64 ((h.getD (1 + k) (0, 0)).1), .int .i64 ((h.getD (1 + k) (0, 0)).2)], 29, true, 2⟩)] ?_ (hc := (by simp [closedB, valsB, valB, List.all_eq_true, List.mem_flatMap, List.mem_range, List.mem_map, i64v, ptc, flat1]; try (intros; simp [valsB, valB, flat1]); try decide))
                exact ih1 ((k + 1), ax, ay, ((h.getD (1 + k) (0, 0)).1), ((h.getD (1 + k) (0, 0)).2)) (show ((k + 1) ≤ h.length - 1) ∧ ((ax, ay) = Sp.seA h (x, y) (k + 1)) ∧ ((((h.getD (1 + k) (0, 0)).1), ((h.getD (1 + k) (0, 0)).2)) = Sp.seB h (x, y) (k + 1)) ∧ ((-1048576 ≤ ax ∧ ax ≤ 1048576) ∧ (-1048576 ≤ ay ∧ ay ≤ 1048576)) ∧ ((-1048576 ≤ ((h.getD (1 + k) (0, 0)).1) ∧ ((h.getD (1 + k) (0, 0)).1) ≤ 1048576) ∧ (-1048576 ≤ ((h.getD (1 + k) (0, 0)).2) ∧ ((h.getD (1 + k) (0, 0)).2) ≤ 1048576)) from ⟨by omega, by (first | exact Sp.seA_y1 hA (by assumption) | exact Sp.seA_y2 hA (by assumption) (by assumption) | exact Sp.seA_n2 hA (by assumption) (by assumption) | exact Sp.seA_n3 hA (by assumption) (by assumption)), by (first | exact Sp.seB_y1 hB (by assumption) | exact Sp.seB_y2 hB (by assumption) (by assumption) | exact Sp.seB_n2 hB (by assumption) (by assumption) | exact Sp.seB_n3 hB (by assumption) (by assumption)), by (first | exact ba | exact fq), by (first | exact bb | exact fq)⟩) (show h.length - 1 - (k + 1) < h.length - 1 - k from by omega)
              · have h13p : ¬ (((Sp.dot x y ((h.getD (1 + k) (0, 0)).1) ((h.getD (1 + k) (0, 0)).2) ((h.getD (1 + k) (0, 0)).1) ((h.getD (1 + k) (0, 0)).2)) < (Sp.dot x y bx b_y bx b_y))) := by first | (simpa using h13) | (have h13q := h13; simp at h13q; omega) | (have h13q := bx2 h13; simp at h13q; omega)
                refine aw_sk ?_
                refine block_normal ?_
                refine then_normal ?_
                refine aw_p1 (
                  .p (does_i (((k : Nat) : Int) + 1) (wrap_i64 (by omega) (by omega)) .i64) <| .a 1 8 <| .nil _ _) ?_
                refine then_normal ?_
                refine al_w [(3, .pointer (some ⟨1, 0, none⟩)), (4, .pointer (some ⟨2, 0, none⟩)), (5, .pointer (some ⟨3, 0, none⟩)), (6, .int .i64 0), (8, .pointer (some ⟨5, 0, none⟩)), (9, .pointer (some ⟨6, 0, none⟩)), (35, .slice (some ⟨4, 2, none⟩) (h.length - 1) 0), (36, .int .i64 (((h.length - 1) : Nat) : Int)), (37, .int .i64 (((k + 1) : Nat) : Int))] [(0, ⟨(ps.flatMap ptc), 29, false, 2⟩), (1, ⟨[.int .i64 x, .int .i64 y], 29, true, 2⟩), (2, ⟨[.int .i64 0, .int .i64 0], 29, true, 2⟩), (3, ⟨[.int .i64 0, .int .i64 0], 29, true, 2⟩), (4, ⟨(h.flatMap ptc), 29, true, 2⟩), (5, ⟨[.int .i64 ax, .int .i64 ay], 29, true, 2⟩), (6, ⟨[.int .i64 bx, .int .i64 b_y], 29, true, 2⟩)] ?_ (hc := (by simp [closedB, valsB, valB, List.all_eq_true, List.mem_flatMap, List.mem_range, List.mem_map, i64v, ptc, flat1]; try (intros; simp [valsB, valB, flat1]); try decide))
                exact ih1 ((k + 1), ax, ay, bx, b_y) (show ((k + 1) ≤ h.length - 1) ∧ ((ax, ay) = Sp.seA h (x, y) (k + 1)) ∧ ((bx, b_y) = Sp.seB h (x, y) (k + 1)) ∧ ((-1048576 ≤ ax ∧ ax ≤ 1048576) ∧ (-1048576 ≤ ay ∧ ay ≤ 1048576)) ∧ ((-1048576 ≤ bx ∧ bx ≤ 1048576) ∧ (-1048576 ≤ b_y ∧ b_y ≤ 1048576)) from ⟨by omega, by (first | exact Sp.seA_y1 hA (by assumption) | exact Sp.seA_y2 hA (by assumption) (by assumption) | exact Sp.seA_n2 hA (by assumption) (by assumption) | exact Sp.seA_n3 hA (by assumption) (by assumption)), by (first | exact Sp.seB_y1 hB (by assumption) | exact Sp.seB_y2 hB (by assumption) (by assumption) | exact Sp.seB_n2 hB (by assumption) (by assumption) | exact Sp.seB_n3 hB (by assumption) (by assumption)), by (first | exact ba | exact fq), by (first | exact bb | exact fq)⟩) (show h.length - 1 - (k + 1) < h.length - 1 - k from by omega)
            · have h12p : ¬ (((Sp.cmp (Sp.crs x y bx b_y ((h.getD (1 + k) (0, 0)).1) ((h.getD (1 + k) (0, 0)).2)) 0) = 0)) := by first | (simpa using h12) | (have h12q := h12; simp at h12q; omega) | (have h12q := bx2 h12; simp at h12q; omega)
              refine aw_d 522207 (
                .a 1 8 <| .p (does_b false (h11)) <| .a 2 8 <| .p (does_b false (h12)) <| .a 10 8 <| .nil _ _) ?_
              refine aw_fl 1044415 ?_
              refine aw_sk ?_
              refine block_normal ?_
              refine then_normal ?_
              refine aw_p1 (
                .p (does_i (((k : Nat) : Int) + 1) (wrap_i64 (by omega) (by omega)) .i64) <| .a 1 8 <| .nil _ _) ?_
              refine then_normal ?_
              refine al_w [(3, .pointer (some ⟨1, 0, none⟩)), (4, .pointer (some ⟨2, 0, none⟩)), (5, .pointer (some ⟨3, 0, none⟩)), (6, .int .i64 0), (8, .pointer (some ⟨5, 0, none⟩)), (9, .pointer (some ⟨6, 0, none⟩)), (35, .slice (some ⟨4, 2, none⟩) (h.length - 1) 0), (36, .int .i64 (((h.length - 1) : Nat) : Int)), (37, .int .i64 (((k + 1) : Nat) : Int))] [(0, ⟨(ps.flatMap ptc), 29, false, 2⟩), (1, ⟨[.int .i64 x, .int .i64 y], 29, true, 2⟩), (2, ⟨[.int .i64 0, .int .i64 0], 29, true, 2⟩), (3, ⟨[.int .i64 0, .int .i64 0], 29, true, 2⟩), (4, ⟨(h.flatMap ptc), 29, true, 2⟩), (5, ⟨[.int .i64 ax, .int .i64 ay], 29, true, 2⟩), (6, ⟨[.int .i64 bx, .int .i64 b_y], 29, true, 2⟩)] ?_ (hc := (by simp [closedB, valsB, valB, List.all_eq_true, List.mem_flatMap, List.mem_range, List.mem_map, i64v, ptc, flat1]; try (intros; simp [valsB, valB, flat1]); try decide))
              exact ih1 ((k + 1), ax, ay, bx, b_y) (show ((k + 1) ≤ h.length - 1) ∧ ((ax, ay) = Sp.seA h (x, y) (k + 1)) ∧ ((bx, b_y) = Sp.seB h (x, y) (k + 1)) ∧ ((-1048576 ≤ ax ∧ ax ≤ 1048576) ∧ (-1048576 ≤ ay ∧ ay ≤ 1048576)) ∧ ((-1048576 ≤ bx ∧ bx ≤ 1048576) ∧ (-1048576 ≤ b_y ∧ b_y ≤ 1048576)) from ⟨by omega, by (first | exact Sp.seA_y1 hA (by assumption) | exact Sp.seA_y2 hA (by assumption) (by assumption) | exact Sp.seA_n2 hA (by assumption) (by assumption) | exact Sp.seA_n3 hA (by assumption) (by assumption)), by (first | exact Sp.seB_y1 hB (by assumption) | exact Sp.seB_y2 hB (by assumption) (by assumption) | exact Sp.seB_n2 hB (by assumption) (by assumption) | exact Sp.seB_n3 hB (by assumption) (by assumption)), by (first | exact ba | exact fq), by (first | exact bb | exact fq)⟩) (show h.length - 1 - (k + 1) < h.length - 1 - k from by omega)
      · have h3p : ¬ (((Sp.cmp (Sp.crs x y ax ay ((h.getD (1 + k) (0, 0)).1) ((h.getD (1 + k) (0, 0)).2)) 0) = 0)) := by first | (simpa using h3) | (have h3q := h3; simp at h3q; omega) | (have h3q := bx2 h3; simp at h3q; omega)
        refine aw_d 522203 (
          .a 1 8 <| .p (does_b false (h2)) <| .a 2 8 <| .p (does_b false (h3)) <| .a 10 8 <| .nil _ _) ?_
        refine aw_fl 1044407 ?_
        refine aw_sk ?_
        refine then_normal ?_
        refine aw_p 261103 (
          .a 3 8 <| .p (does_c (turn_in x y bx b_y ((h.getD (1 + k) (0, 0)).1) ((h.getD (1 + k) (0, 0)).2) (by omega) (by omega) (by omega) (by omega) (by omega) (by omega) (by omega) (by omega) (by omega) (by omega) (by omega) (by omega))) <| .a 1 8 <| .nil _ _) ?_
        rcases Bool.eq_false_or_eq_true (decide ((Sp.cmp (Sp.crs x y bx b_y ((h.getD (1 + k) (0, 0)).1) ((h.getD (1 + k) (0, 0)).2)) 0) > 0)) with h14 | h14
        · have h14p : (((Sp.cmp (Sp.crs x y bx b_y ((h.getD (1 + k) (0, 0)).1) ((h.getD (1 + k) (0, 0)).2)) 0) > 0)) := by first | (simpa using h14) | (have h14q := h14; simp at h14q; omega) | (have h14q := bx1 h14; simp at h14q; omega)
          refine aw_d 522207 (
            .a 1 8 <| .p (does_b true (h14)) <| .a 13 8 <| .nil _ _) ?_
          refine aw_tr 1044414 ?_
          refine aw_p1 (
            .a 2 8 <| .nil _ _) ?_
          refine block_normal ?_
          refine then_normal ?_
          refine aw_p1 (
            .p (does_i (((k : Nat) : Int) + 1) (wrap_i64 (by omega) (by omega)) .i64) <| .a 1 8 <| .nil _ _) ?_
          refine then_normal ?_
          refine al_w [(3, .pointer (some ⟨1, 0, none⟩)), (4, .pointer (some ⟨2, 0, none⟩)), (5, .pointer (some ⟨3, 0, none⟩)), (6, .int .i64 0), (8, .pointer (some ⟨5, 0, none⟩)), (9, .pointer (some ⟨6, 0, none⟩)), (35, .slice (some ⟨4, 2, none⟩) (h.length - 1) 0), (36, .int .i64 (((h.length - 1) : Nat) : Int)), (37, .int .i64 (((k + 1) : Nat) : Int))] [(0, ⟨(ps.flatMap ptc), 29, false, 2⟩), (1, ⟨[.int .i64 x, .int .i64 y], 29, true, 2⟩), (2, ⟨[.int .i64 0, .int .i64 0], 29, true, 2⟩), (3, ⟨[.int .i64 0, .int .i64 0], 29, true, 2⟩), (4, ⟨(h.flatMap ptc), 29, true, 2⟩), (5, ⟨[.int .i64 ax, .int .i64 ay], 29, true, 2⟩), (6, ⟨[.int .i64 ((h.getD (1 + k) (0, 0)).1), .int .i64 ((h.getD (1 + k) (0, 0)).2)], 29, true, 2⟩)] ?_ (hc := (by simp [closedB, valsB, valB, List.all_eq_true, List.mem_flatMap, List.mem_range, List.mem_map, i64v, ptc, flat1]; try (intros; simp [valsB, valB, flat1]); try decide))
          exact ih1 ((k + 1), ax, ay, ((h.getD (1 + k) (0, 0)).1), ((h.getD (1 + k) (0, 0)).2)) (show ((k + 1) ≤ h.length - 1) ∧ ((ax, ay) = Sp.seA h (x, y) (k + 1)) ∧ ((((h.getD (1 + k) (0, 0)).1), ((h.getD (1 + k) (0, 0)).2)) = Sp.seB h (x, y) (k + 1)) ∧ ((-1048576 ≤ ax ∧ ax ≤ 1048576) ∧ (-1048576 ≤ ay ∧ ay ≤ 1048576)) ∧ ((-1048576 ≤ ((h.getD (1 + k) (0, 0)).1) ∧ ((h.getD (1 + k) (0, 0)).1) ≤ 1048576) ∧ (-1048576 ≤ ((h.getD (1 + k) (0, 0)).2) ∧ ((h.getD (1 + k) (0, 0)).2) ≤ 1048576)) from ⟨by omega, by (first | exact Sp.seA_y1 hA (by assumption) | exact Sp.seA_y2 hA (by assumption) (by assumption) | exact Sp.seA_n2 hA (by assumption) (by assumption) | exact Sp.seA_n3 hA (by assumption) (by assumption)), by (first | exact Sp.seB_y1 hB (by assumption) | exact Sp.seB_y2 hB (by assumption) (by assumption) | exact Sp.seB_n2 hB (by assumption) (by assumption) | exact Sp.seB_n3 hB (by assumption) (by assumption)), by (first | exact ba | exact fq), by (first | exact bb | exact fq)⟩) (show h.length - 1 - (k + 1) < h.length - 1 - k from by omega)
        · have h14p : ¬ (((Sp.cmp (Sp.crs x y bx b_y ((h.getD (1 + k) (0, 0)).1) ((h.getD (1 + k) (0, 0)).2)) 0) > 0)) := by first | (simpa using h14) | (have h14q := h14; simp at h14q; omega) | (have h14q := bx2 h14; simp at h14q; omega)
          rcases Bool.eq_false_or_eq_true ((Sp.cmp (Sp.crs x y bx b_y ((h.getD (1 + k) (0, 0)).1) ((h.getD (1 + k) (0, 0)).2)) 0) == 0) with h15 | h15
          · have h15p : (((Sp.cmp (Sp.crs x y bx b_y ((h.getD (1 + k) (0, 0)).1) ((h.getD (1 + k) (0, 0)).2)) 0) = 0)) := by first | (simpa using h15) | (have h15q := h15; simp at h15q; omega) | (have h15q := bx1 h15; simp at h15q; omega)
            refine aw_d 522207 (
              .a 1 8 <| .p (does_b false (h14)) <| .a 2 8 <| .p (does_b true (h15)) <| .a 3 8 <| .p (does_c (sq_in x y ((h.getD (1 + k) (0, 0)).1) ((h.getD (1 + k) (0, 0)).2) (by omega) (by omega) (by omega) (by omega) (by omega) (by omega) (by omega) (by omega))) <| .a 2 8 <|
              .p (does_c (sq_in x y bx b_y (by omega) (by omega) (by omega) (by omega) (by omega) (by omega) (by omega) (by omega))) <| .a 3 8 <| .nil _ _) ?_
            refine aw_cd 1044414 1044415 (decide ((Sp.dot x y ((h.getD (1 + k) (0, 0)).1) ((h.getD (1 + k) (0, 0)).2) ((h.getD (1 + k) (0, 0)).1) ((h.getD (1 + k) (0, 0)).2)) < (Sp.dot x y bx b_y bx b_y))) (fun h16 => ?_) (fun h16 => ?_)
            · have h16p : (((Sp.dot x y ((h.getD (1 + k) (0, 0)).1) ((h.getD (1 + k) (0, 0)).2) ((h.getD (1 + k) (0, 0)).1) ((h.getD (1 + k) (0, 0)).2)) < (Sp.dot x y bx b_y bx b_y))) := by first | (simpa using h16) | (have h16q := h16; simp at h16q; omega) | (have h16q := bx1 h16; simp at h16q; omega)
              refine aw_p1 (
                .a 2 8 <| .nil _ _) ?_
              refine block_normal ?_
              refine then_normal ?_
              refine aw_p1 (
                .p (does_i (((k : Nat) : Int) + 1) (wrap_i64 (by omega) (by omega)) .i64) <| .a 1 8 <| .nil _ _) ?_
              refine then_normal ?_
              refine al_w [(3, .pointer (some ⟨1, 0, none⟩)), (4, .pointer (some ⟨2, 0, none⟩)), (5, .pointer (some ⟨3, 0, none⟩)), (6, .int .i64 0), (8, .pointer (some ⟨5, 0, none⟩)), (9, .pointer (some ⟨6, 0, none⟩)), (35, .slice (some ⟨4, 2, none⟩) (h.length - 1) 0), (36, .int .i64 (((h.length - 1) : Nat) : Int)), (37, .int .i64 (((k + 1) : Nat) : Int))] [(0, ⟨(ps.flatMap ptc), 29, false, 2⟩), (1, ⟨[.int .i64 x, .int .i64 y], 29, true, 2⟩), (2, ⟨[.int .i64 0, .int .i64 0], 29, true, 2⟩), (3, ⟨[.int .i64 0, .int .i64 0], 29, true, 2⟩), (4, ⟨(h.flatMap ptc), 29, true, 2⟩), (5, ⟨[.int .i64 ax, .int .i64 ay], 29, true, 2⟩), (6, ⟨[.int .i64 ((h.getD (1 + k) (0, 0)).1), .int .i64 ((h.getD (1 + k) (0, 0)).2)], 29, true, 2⟩)] ?_ (hc := (by simp [closedB, valsB, valB, List.all_eq_true, List.mem_flatMap, List.mem_range, List.mem_map, i64v, ptc, flat1]; try (intros; simp [valsB, valB, flat1]); try decide))
              exact ih1 ((k + 1), ax, ay, ((h.getD (1 + k) (0, 0)).1), ((h.getD (1 + k) (0, 0)).2)) (show ((k + 1) ≤ h.length - 1) ∧ ((ax, ay) = Sp.seA h (x, y) (k + 1)) ∧ ((((h.getD (1 + k) (0, 0)).1), ((h.getD (1 + k) (0, 0)).2)) = Sp.seB h (x, y) (k + 1)) ∧ ((-1048576 ≤ ax ∧ ax ≤ 1048576) ∧ (-1048576 ≤ ay ∧ ay ≤ 1048576)) ∧ ((-1048576 ≤ ((h.getD (1 + k) (0, 0)).1) ∧ ((h.getD (1 + k) (0, 0)).1) ≤ 1048576) ∧ (-1048576 ≤ ((h.getD (1 + k) (0, 0)).2) ∧ ((h.getD (1 + k) (0, 0)).2) ≤ 1048576)) from ⟨by omega, by (first | exact Sp.seA_y1 hA (by assumption) | exact Sp.seA_y2 hA (by assumption) (by assumption) | exact Sp.seA_n2 hA (by assumption) (by assumption) | exact Sp.seA_n3 hA (by assumption) (by assumption)), by (first | exact Sp.seB_y1 hB (by assumption) | exact Sp.seB_y2 hB (by assumption) (by assumption) | exact Sp.seB_n2 hB (by assumption) (by assumption) | exact Sp.seB_n3 hB (by assumption) (by assumption)), by (first | exact ba | exact fq), by (first | exact bb | exact fq)⟩) (show h.length - 1 - (k + 1) < h.length - 1 - k from by omega)
            · have h16p : ¬ (((Sp.dot x y ((h.getD (1 + k) (0, 0)).1) ((h.getD (1 + k) (0, 0)).2) ((h.getD (1 + k) (0, 0)).1) ((h.getD (1 + k) (0, 0)).2)) < (Sp.dot x y bx b_y bx b_y))) := by first | (simpa using h16) | (have h16q := h16; simp at h16q; omega) | (have h16q := bx2 h16; simp at h16q; omega)
              refine aw_sk ?_
              refine block_normal ?_
              refine then_normal ?_
              refine aw_p1 (
                .p (does_i (((k : Nat) : Int) + 1) (wrap_i64 (by omega) (by omega)) .i64) <| .a 1 8 <| .nil _ _) ?_
              refine then_normal ?_
              refine al_w [(3, .pointer (some ⟨1, 0, none⟩)), (4, .pointer (some ⟨2, 0, none⟩)), (5, .pointer (some ⟨3, 0, none⟩)), (6, .int .i64 0), (8, .pointer (some ⟨5, 0, none⟩)), (9, .pointer (some ⟨6, 0, none⟩)), (35, .slice (some ⟨4, 2, none⟩) (h.length - 1) 0), (36, .int .i64 (((h.length - 1) : Nat) : Int)), (37, .int .i64 (((k + 1) : Nat) : Int))] [(0, ⟨(ps.flatMap ptc), 29, false, 2⟩), (1, ⟨[.int .i64 x, .int .i64 y], 29, true, 2⟩), (2, ⟨[.int .i64 0, .int .i64 0], 29, true, 2⟩), (3, ⟨[.int .i64 0, .int .i64 0], 29, true, 2⟩), (4, ⟨(h.flatMap ptc), 29, true, 2⟩), (5, ⟨[.int .i64 ax, .int .i64 ay], 29, true, 2⟩), (6, ⟨[.int .i64 bx, .int .i64 b_y], 29, true, 2⟩)] ?_ (hc := (by simp [closedB, valsB, valB, List.all_eq_true, List.mem_flatMap, List.mem_range, List.mem_map, i64v, ptc, flat1]; try (intros; simp [valsB, valB, flat1]); try decide))
              exact ih1 ((k + 1), ax, ay, bx, b_y) (show ((k + 1) ≤ h.length - 1) ∧ ((ax, ay) = Sp.seA h (x, y) (k + 1)) ∧ ((bx, b_y) = Sp.seB h (x, y) (k + 1)) ∧ ((-1048576 ≤ ax ∧ ax ≤ 1048576) ∧ (-1048576 ≤ ay ∧ ay ≤ 1048576)) ∧ ((-1048576 ≤ bx ∧ bx ≤ 1048576) ∧ (-1048576 ≤ b_y ∧ b_y ≤ 1048576)) from ⟨by omega, by (first | exact Sp.seA_y1 hA (by assumption) | exact Sp.seA_y2 hA (by assumption) (by assumption) | exact Sp.seA_n2 hA (by assumption) (by assumption) | exact Sp.seA_n3 hA (by assumption) (by assumption)), by (first | exact Sp.seB_y1 hB (by assumption) | exact Sp.seB_y2 hB (by assumption) (by assumption) | exact Sp.seB_n2 hB (by assumption) (by assumption) | exact Sp.seB_n3 hB (by assumption) (by assumption)), by (first | exact ba | exact fq), by (first | exact bb | exact fq)⟩) (show h.length - 1 - (k + 1) < h.length - 1 - k from by omega)
          · have h15p : ¬ (((Sp.cmp (Sp.crs x y bx b_y ((h.getD (1 + k) (0, 0)).1) ((h.getD (1 + k) (0, 0)).2)) 0) = 0)) := by first | (simpa using h15) | (have h15q := h15; simp at h15q; omega) | (have h15q := bx2 h15; simp at h15q; omega)
            refine aw_d 522207 (
              .a 1 8 <| .p (does_b false (h14)) <| .a 2 8 <| .p (does_b false (h15)) <| .a 10 8 <| .nil _ _) ?_
            refine aw_fl 1044415 ?_
            refine aw_sk ?_
            refine block_normal ?_
            refine then_normal ?_
            refine aw_p1 (
              .p (does_i (((k : Nat) : Int) + 1) (wrap_i64 (by omega) (by omega)) .i64) <| .a 1 8 <| .nil _ _) ?_
            refine then_normal ?_
            refine al_w [(3, .pointer (some ⟨1, 0, none⟩)), (4, .pointer (some ⟨2, 0, none⟩)), (5, .pointer (some ⟨3, 0, none⟩)), (6, .int .i64 0), (8, .pointer (some ⟨5, 0, none⟩)), (9, .pointer (some ⟨6, 0, none⟩)), (35, .slice (some ⟨4, 2, none⟩) (h.length - 1) 0), (36, .int .i64 (((h.length - 1) : Nat) : Int)), (37, .int .i64 (((k + 1) : Nat) : Int))] [(0, ⟨(ps.flatMap ptc), 29, false, 2⟩), (1, ⟨[.int .i64 x, .int .i64 y], 29, true, 2⟩), (2, ⟨[.int .i64 0, .int .i64 0], 29, true, 2⟩), (3, ⟨[.int .i64 0, .int .i64 0], 29, true, 2⟩), (4, ⟨(h.flatMap ptc), 29, true, 2⟩), (5, ⟨[.int .i64 ax, .int .i64 ay], 29, true, 2⟩), (6, ⟨[.int .i64 bx, .int .i64 b_y], 29, true, 2⟩)] ?_ (hc := (by simp [closedB, valsB, valB, List.all_eq_true, List.mem_flatMap, List.mem_range, List.mem_map, i64v, ptc, flat1]; try (intros; simp [valsB, valB, flat1]); try decide))
            exact ih1 ((k + 1), ax, ay, bx, b_y) (show ((k + 1) ≤ h.length - 1) ∧ ((ax, ay) = Sp.seA h (x, y) (k + 1)) ∧ ((bx, b_y) = Sp.seB h (x, y) (k + 1)) ∧ ((-1048576 ≤ ax ∧ ax ≤ 1048576) ∧ (-1048576 ≤ ay ∧ ay ≤ 1048576)) ∧ ((-1048576 ≤ bx ∧ bx ≤ 1048576) ∧ (-1048576 ≤ b_y ∧ b_y ≤ 1048576)) from ⟨by omega, by (first | exact Sp.seA_y1 hA (by assumption) | exact Sp.seA_y2 hA (by assumption) (by assumption) | exact Sp.seA_n2 hA (by assumption) (by assumption) | exact Sp.seA_n3 hA (by assumption) (by assumption)), by (first | exact Sp.seB_y1 hB (by assumption) | exact Sp.seB_y2 hB (by assumption) (by assumption) | exact Sp.seB_n2 hB (by assumption) (by assumption) | exact Sp.seB_n3 hB (by assumption) (by assumption)), by (first | exact ba | exact fq), by (first | exact bb | exact fq)⟩) (show h.length - 1 - (k + 1) < h.length - 1 - k from by omega)
  · have h1p : ¬ ((((k : Nat) : Int) < (((h.length - 1) : Nat) : Int))) := by first | (simpa using h1) | (have h1q := h1; simp at h1q; omega) | (have h1q := bx2 h1; simp at h1q; omega)
    have hke : h.length - 1 = k := by omega
    refine aw_ex 0 ?_
    refine then_exit ?_
    refine then_exit ?_
    refine block_exit ?_
    refine then_normal ?_
    refine aw_d 511 (
      .a 5 7 <| .nil _ _) ?_
    refine aw_rt ?_
    exact en_ret [.agg #[.int .i64 ax, .int .i64 ay], .agg #[.int .i64 bx, .int .i64 b_y], .int .i64 0] (show (.tuple #[.agg #[.int .i64 ax, .int .i64 ay], .agg #[.int .i64 bx, .int .i64 b_y], .int .i64 0] : Value) = (.tuple #[.agg #[.int .i64 ((Sp.seA h (x, y) (h.length - 1)).1), .int .i64 ((Sp.seA h (x, y) (h.length - 1)).2)], .agg #[.int .i64 ((Sp.seB h (x, y) (h.length - 1)).1), .int .i64 ((Sp.seB h (x, y) (h.length - 1)).2)], .int .i64 0]) from (congrArg (fun z : List Value => Value.tuple z.toArray) (lcons (congrArg (fun z : List Value => Value.agg z.toArray) (lcons (congrArg (Value.int .i64) (show ax = ((Sp.seA h (x, y) (h.length - 1)).1) from by (first | exact (by rw [hke]; exact congrArg (·.1) hA) | exact (by rw [hke]; exact congrArg (·.2) hA) | exact (by rw [hke]; exact congrArg (·.1) hB) | exact (by rw [hke]; exact congrArg (·.2) hB)))) (lcons (congrArg (Value.int .i64) (show ay = ((Sp.seA h (x, y) (h.length - 1)).2) from by (first | exact (by rw [hke]; exact congrArg (·.1) hA) | exact (by rw [hke]; exact congrArg (·.2) hA) | exact (by rw [hke]; exact congrArg (·.1) hB) | exact (by rw [hke]; exact congrArg (·.2) hB)))) rfl))) (lcons (congrArg (fun z : List Value => Value.agg z.toArray) (lcons (congrArg (Value.int .i64) (show bx = ((Sp.seB h (x, y) (h.length - 1)).1) from by (first | exact (by rw [hke]; exact congrArg (·.1) hA) | exact (by rw [hke]; exact congrArg (·.2) hA) | exact (by rw [hke]; exact congrArg (·.1) hB) | exact (by rw [hke]; exact congrArg (·.2) hB)))) (lcons (congrArg (Value.int .i64) (show b_y = ((Sp.seB h (x, y) (h.length - 1)).2) from by (first | exact (by rw [hke]; exact congrArg (·.1) hA) | exact (by rw [hke]; exact congrArg (·.2) hA) | exact (by rw [hke]; exact congrArg (·.1) hB) | exact (by rw [hke]; exact congrArg (·.2) hB)))) rfl))) (lcons rfl rfl)))))

end Go.Proofs.Ytadifmimefmcnaa.Am
