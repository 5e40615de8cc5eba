/-
  The walk of the law HullSees.
-/
import Derived.Test.YtadifmimefmcnaaProg
import Derived.Test.YtadifmimefmcnaaAm16
import Derived.Test.YtadifmimefmcnaaWHullSees1
import Derived.Test.YtadifmimefmcnaaSc
namespace Go.Proofs.Ytadifmimefmcnaa.Am
open Go Go.Proofs
set_option maxRecDepth 100000
set_option maxHeartbeats 4000000
set_option linter.unusedVariables false
set_option linter.unusedSimpArgs false

theorem hullSees_out (ps h : List (Int × Int)) (hh : Sp.hullF (ps.map Sp.lmP) = h) (h1 : 1 ≤ ps.length) (hz : ps.length ≤ 8796093021952) (x0 y0 x y : Int) (hx0 : Sp.lim 1048576 x0 = x) (hy0 : Sp.lim 1048576 y0 = y) (hin : Sp.hasH h x y = false) :
    AC Try.prog 10 1 ([.slice (some ⟨0, 0, none⟩) ps.length 0, .agg #[.int .i64 x0, .int .i64 y0]]) [(0, ⟨(ps.flatMap ptc), 29, false, 2⟩)] (.bool true) [] := by
  have hml : 1 ≤ (ps.map Sp.lmP).length := (by rw [List.length_map]; exact h1); have hhl : 1 ≤ h.length := (hh ▸ (Sp.hull_len hml).1); have h1c := h1; have hhu : h.length ≤ 8796093021952 := (by have q := Sp.hull_few (ps := ps.map Sp.lmP) (pts := ps.map Sp.lmP) (fun q => Iff.rfl) hml; rw [hh, List.length_map] at q; omega); have hfh : Sp.Few 1048576 h := Sp.few_sub (by decide) (Sp.few_lim ps) (fun q hq => Sp.hull_sub (hh ▸ hq)); have qx0 := Sp.lim_bd (m := 1048576) (by decide) x0; have qy0 := Sp.lim_bd (m := 1048576) (by decide) y0; rw [hx0] at qx0; rw [hy0] at qy0; obtain ⟨A, hA⟩ : ∃ A, Sp.seA h (x, y) (h.length - 1) = A := ⟨_, rfl⟩; obtain ⟨C, hC⟩ : ∃ C, Sp.seB h (x, y) (h.length - 1) = C := ⟨_, rfl⟩; obtain ⟨fA0, fA⟩ := Sp.find_A (p := (x, y)) hml (by rw [hh]; exact hin); obtain ⟨fB0, fB⟩ := Sp.find_B (p := (x, y)) hml (by rw [hh]; exact hin); rw [hh] at fA0 fA fB0 fB; rw [hA] at fA; rw [hC] at fB
  refine ac_in Try.func10 (fun w0 W pin => ?_)
  refine aw_p 3 (
    .a 2 1 <| .nil _ _) ?_
  refine aw_sq 6 7 ?_
  refine aw_p 13 (
    .p (does_c (hullBegun1_ok)) <| .a 1 2 <| .nil _ _) ?_
  refine aw_fl 27 ?_
  refine aw_sk ?_
  refine then_normal ?_
  refine aw_p 15 (
    .a 2 2 <|
    .p (does_callB (x := .func 33) (ars := #[.tmp 13, .tmp 14]) (ats := #[24, 29]) (g := 33) (vs := [.slice (some ⟨0, 0, none⟩) ps.length 0, .agg #[.int .i64 x0, .int .i64 y0]]) (m := 1) (r := 0) (firsts := #[]) (caps := #[]) (args0 := [.slice (some ⟨0, 0, none⟩) ps.length 0, .agg #[.int .i64 x0, .int .i64 y0]]) (pre0 := [(0, ⟨(ps.flatMap ptc), 29, false, 2⟩)]) (post0 := []) (pre := [(0, ⟨(ps.flatMap ptc), 29, false, 2⟩)]) (post := []) (v0 := .tuple #[.agg #[.int .i64 A.1, .int .i64 A.2], .agg #[.int .i64 C.1, .int .i64 C.2], .int .i64 0]) (v := .tuple #[.agg #[.int .i64 A.1, .int .i64 A.2], .agg #[.int .i64 C.1, .int .i64 C.2], .int .i64 0]) [0] (by kernel_rfl) (by kernel_rfl) (by kernel_rfl) (by kernel_rfl) ((by have q := hullseenl_out ps h hh h1c hz x0 y0 x y hx0 hy0 ⟨hhl, by omega⟩ hfh hin; rw [hA, hC] at q; exact q)) (.cons (.slice _ _ _ _ _ (by decide)) (.cons (.flatB (by kernel_rfl)) .nil)) ⟨rfl, ⟨rfl, rfl, rfl, (.flats (flats_pair _))⟩, trivial⟩ (by kernel_rfl) (by kernel_rfl) (by kernel_rfl) trivial (.flatB (by kernel_rfl))) <|
    .a 9 2 <| .nil _ _) ?_
  refine aw_p 31 (
    .a 1 4 <|
    .p (does_callB (x := .func 38) (ars := #[.tmp 19]) (ats := #[24]) (g := 38) (vs := [.slice (some ⟨0, 0, none⟩) ps.length 0]) (m := 1) (r := 1) (firsts := #[]) (caps := #[]) (args0 := [.slice (some ⟨0, 0, none⟩) ps.length 0]) (pre0 := [(0, ⟨(ps.flatMap ptc), 29, false, 2⟩)]) (post0 := [(1, ⟨(h.flatMap ptc), 29, true, 2⟩)]) (pre := [(0, ⟨(ps.flatMap ptc), 29, false, 2⟩)]) (post := [(4, ⟨(h.flatMap ptc), 29, true, 2⟩)]) (v0 := .slice (some ⟨1, 0, none⟩) h.length 0) (v := .slice (some ⟨4, 0, none⟩) h.length 0) [0, 4] (by kernel_rfl) (by kernel_rfl) (by kernel_rfl) (by kernel_rfl) (rhull_ro ps h hh h1c hz) (.cons (.slice _ _ _ _ _ (by decide)) .nil) ⟨rfl, ⟨rfl, rfl, rfl, (.flats (flats_pair _))⟩, trivial⟩ (by kernel_rfl) (by kernel_rfl) (by kernel_rfl) ⟨rfl, ⟨rfl, rfl, rfl, (.flats (flats_pair _))⟩, trivial⟩ (.slice _ _ _ _ _ (by decide))) <|
    .a 2 5 <| .nil _ _) ?_
  refine aw_sq 62 63 ?_
  refine aw_bl 0 125 ?_
  refine aw_p 251 (
    .a 2 6 <| .p (does_b false ((show (((h.length : Nat) : Int) == 0) = false from (by rw [beq_eq_false_iff_ne]; omega)))) <| .a 1 6 <| .nil _ _) ?_
  refine aw_fl 503 ?_
  refine aw_p 1007 (
    .a 2 6 <|
    .p (does_callB (x := .func 41) (ars := #[.tmp 38, .tmp 39]) (ats := #[24, 29]) (g := 41) (vs := [.slice (some ⟨4, 0, none⟩) h.length 0, .agg #[.int .i64 x0, .int .i64 y0]]) (m := 1) (r := 0) (firsts := #[]) (caps := #[]) (args0 := [.slice (some ⟨0, 0, none⟩) h.length 0, .agg #[.int .i64 x0, .int .i64 y0]]) (pre0 := [(0, ⟨(h.flatMap ptc), 29, true, 2⟩)]) (post0 := [(0, ⟨(h.flatMap ptc), 29, true, 2⟩)]) (pre := [(4, ⟨(h.flatMap ptc), 29, true, 2⟩)]) (post := [(4, ⟨(h.flatMap ptc), 29, true, 2⟩)]) (v0 := .bool (Sp.hasH h x y)) (v := .bool (Sp.hasH h x y)) [4] (by kernel_rfl) (by kernel_rfl) (by kernel_rfl) (by kernel_rfl) ((by have q := hulledw (ps.map Sp.lmP) h hh ⟨hhl, by omega⟩ hfh x0 y0; rw [hx0, hy0] at q; exact q)) (.cons (.slice _ _ _ _ _ (by decide)) (.cons (.flatB (by kernel_rfl)) .nil)) ⟨rfl, ⟨rfl, rfl, rfl, (.flats (flats_pair _))⟩, trivial⟩ (by kernel_rfl) (by kernel_rfl) (by kernel_rfl) ⟨rfl, ⟨rfl, rfl, rfl, (.flats (flats_pair _))⟩, trivial⟩ (.flatB (by kernel_rfl))) <|
    .a 1 6 <| .nil _ _) ?_
  refine aw_fl 2015 ?_ (Sp.hasH h x y) (hin)
  refine aw_sk ?_
  refine block_normal ?_
  refine then_normal ?_
  refine aw_p 127 (
    .a 1 6 <| .p (does_c ((by have q := rvalid_ok x0 y0; rw [hx0, hy0] at q; exact q))) <| .a 1 6 <| .nil _ _) ?_
  refine aw_p 255 (
    .a 2 6 <| .nil _ _) ?_
  refine aw_d 511 (
    .a 5 6 <|
    .p (does_callB (x := .tmp 60) (ars := #[.const (.int .i64 1)]) (ats := #[3]) (g := 43) (vs := [.int .i64 1]) (m := 3) (r := 0) (firsts := #[]) (caps := #[.pointer (some ⟨5, 0, none⟩), .pointer (some ⟨1, 0, none⟩)]) (args0 := [.int .i64 1, .pointer (some ⟨0, 0, none⟩), .pointer (some ⟨1, 0, none⟩)]) (pre0 := [(0, ⟨[.slice (some ⟨2, 0, none⟩) h.length 0], 24, true, 1⟩), (1, ⟨[.int .i64 x, .int .i64 y], 29, true, 2⟩), (2, ⟨(h.flatMap ptc), 29, true, 2⟩)]) (post0 := [(0, ⟨[.slice (some ⟨2, 0, none⟩) h.length 0], 24, true, 1⟩), (1, ⟨[.int .i64 x, .int .i64 y], 29, true, 2⟩), (2, ⟨(h.flatMap ptc), 29, true, 2⟩)]) (pre := [(5, ⟨[.slice (some ⟨4, 0, none⟩) h.length 0], 24, true, 1⟩), (1, ⟨[.int .i64 x, .int .i64 y], 29, true, 2⟩), (4, ⟨(h.flatMap ptc), 29, true, 2⟩)]) (post := [(5, ⟨[.slice (some ⟨4, 0, none⟩) h.length 0], 24, true, 1⟩), (1, ⟨[.int .i64 x, .int .i64 y], 29, true, 2⟩), (4, ⟨(h.flatMap ptc), 29, true, 2⟩)]) (v0 := .agg #[.int .i64 A.1, .int .i64 A.2]) (v := .agg #[.int .i64 A.1, .int .i64 A.2]) [5, 1, 4] (by kernel_rfl) (by kernel_rfl) (by kernel_rfl) (by kernel_rfl) ((by have q := fnd_ok h _ x y 1 rfl fA0 hhl hhu hfh qx0 qy0 (.inl rfl); rw [fA] at q; exact q)) (.cons (.flatB (by kernel_rfl)) (.cons (.ptr _ _ (by decide)) (.cons (.ptr _ _ (by decide)) .nil))) ⟨rfl, ⟨rfl, rfl, rfl, (.cons (.slice _ _ _ _ _ (by decide)) .nil)⟩, rfl, ⟨rfl, rfl, rfl, (.flats (by kernel_rfl))⟩, rfl, ⟨rfl, rfl, rfl, (.flats (flats_pair _))⟩, trivial⟩ (by kernel_rfl) (by kernel_rfl) (by kernel_rfl) ⟨rfl, ⟨rfl, rfl, rfl, (.cons (.slice _ _ _ _ _ (by decide)) .nil)⟩, rfl, ⟨rfl, rfl, rfl, (.flats (by kernel_rfl))⟩, rfl, ⟨rfl, rfl, rfl, (.flats (flats_pair _))⟩, trivial⟩ (.flatB (by kernel_rfl))) <|
    .p (does_e true ((show ((A.1 == A.1) && ((A.2 == A.2) && true)) = true from (by simp)))) <| .a 4 6 <|
    .p (does_callB (x := .tmp 66) (ars := #[.const (.int .i64 (-1))]) (ats := #[3]) (g := 43) (vs := [.int .i64 (-1)]) (m := 3) (r := 0) (firsts := #[]) (caps := #[.pointer (some ⟨5, 0, none⟩), .pointer (some ⟨1, 0, none⟩)]) (args0 := [.int .i64 (-1), .pointer (some ⟨0, 0, none⟩), .pointer (some ⟨1, 0, none⟩)]) (pre0 := [(0, ⟨[.slice (some ⟨2, 0, none⟩) h.length 0], 24, true, 1⟩), (1, ⟨[.int .i64 x, .int .i64 y], 29, true, 2⟩), (2, ⟨(h.flatMap ptc), 29, true, 2⟩)]) (post0 := [(0, ⟨[.slice (some ⟨2, 0, none⟩) h.length 0], 24, true, 1⟩), (1, ⟨[.int .i64 x, .int .i64 y], 29, true, 2⟩), (2, ⟨(h.flatMap ptc), 29, true, 2⟩)]) (pre := [(5, ⟨[.slice (some ⟨4, 0, none⟩) h.length 0], 24, true, 1⟩), (1, ⟨[.int .i64 x, .int .i64 y], 29, true, 2⟩), (4, ⟨(h.flatMap ptc), 29, true, 2⟩)]) (post := [(5, ⟨[.slice (some ⟨4, 0, none⟩) h.length 0], 24, true, 1⟩), (1, ⟨[.int .i64 x, .int .i64 y], 29, true, 2⟩), (4, ⟨(h.flatMap ptc), 29, true, 2⟩)]) (v0 := .agg #[.int .i64 C.1, .int .i64 C.2]) (v := .agg #[.int .i64 C.1, .int .i64 C.2]) [5, 1, 4] (by kernel_rfl) (by kernel_rfl) (by kernel_rfl) (by kernel_rfl) ((by have q := fnd_ok h _ x y (-1) rfl fB0 hhl hhu hfh qx0 qy0 (.inr rfl); rw [fB] at q; exact q)) (.cons (.flatB (by kernel_rfl)) (.cons (.ptr _ _ (by decide)) (.cons (.ptr _ _ (by decide)) .nil))) ⟨rfl, ⟨rfl, rfl, rfl, (.cons (.slice _ _ _ _ _ (by decide)) .nil)⟩, rfl, ⟨rfl, rfl, rfl, (.flats (by kernel_rfl))⟩, rfl, ⟨rfl, rfl, rfl, (.flats (flats_pair _))⟩, trivial⟩ (by kernel_rfl) (by kernel_rfl) (by kernel_rfl) ⟨rfl, ⟨rfl, rfl, rfl, (.cons (.slice _ _ _ _ _ (by decide)) .nil)⟩, rfl, ⟨rfl, rfl, rfl, (.flats (by kernel_rfl))⟩, rfl, ⟨rfl, rfl, rfl, (.flats (flats_pair _))⟩, trivial⟩ (.flatB (by kernel_rfl))) <|
    .p (does_e true ((show ((C.1 == C.1) && ((C.2 == C.2) && true)) = true from (by simp)))) <| .a 2 6 <| .nil _ _) ?_
  refine aw_rt ?_
  exact en_ret [.bool true] (by kernel_rfl)


theorem hullSees_ok (ps : List (Int × Int)) (hz : ps.length ≤ 8796093021952) (x y : Int) : AC Try.prog 10 1 [.slice (some ⟨0, 0, none⟩) ps.length 0, .agg #[.int .i64 x, .int .i64 y]] [(0, ⟨(ps.flatMap ptc), 29, false, 2⟩)] (.bool true) [] := by
  rcases Nat.eq_zero_or_pos ps.length with c | c
  · have e := List.length_eq_zero_iff.1 c
    subst e
    exact hullSees_nil x y
  · rcases Bool.eq_false_or_eq_true (Sp.hasH (Sp.hullF (ps.map Sp.lmP)) (Sp.lim 1048576 x) (Sp.lim 1048576 y)) with k | k
    · exact hullSees_in ps _ rfl c hz x y _ _ rfl rfl k
    · exact hullSees_out ps _ rfl c hz x y _ _ rfl rfl k
end Go.Proofs.Ytadifmimefmcnaa.Am
