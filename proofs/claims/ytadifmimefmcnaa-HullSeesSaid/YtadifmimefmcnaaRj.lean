/-
  The walk of the document's hull.
-/
import Derived.Test.YtadifmimefmcnaaProg
import Derived.Test.YtadifmimefmcnaaAm16
import Derived.Test.YtadifmimefmcnaaPt3
import Derived.Test.YtadifmimefmcnaaCb2
import Derived.Test.YtadifmimefmcnaaHu13
import Derived.Test.YtadifmimefmcnaaAm25
namespace Go.Proofs.Ytadifmimefmcnaa.Am
open Go Go.Proofs
set_option maxRecDepth 100000
set_option maxHeartbeats 4000000
set_option linter.unusedVariables false
set_option linter.unusedSimpArgs false

theorem rhullw (ps pts h : List (Int × Int)) (hp : Sp.ddN ps ps.length = pts) (hh : Sp.hullF (ps.map Sp.lmP) = h) (h1 : 1 ≤ ps.length) (hz : ps.length ≤ 8796093021952) :
    AC Try.prog 38 1 ([.slice (some ⟨0, 0, none⟩) ps.length 0]) [(0, ⟨(ps.flatMap ptc), 29, false, 2⟩)] (.slice (some ⟨1, 0, none⟩) h.length 0) [(1, ⟨(h.flatMap ptc), 29, true, 2⟩)] := by
  have hpl : pts.length ≤ ps.length := hp ▸ Sp.ddN_len ps ps.length; have hp1 : 1 ≤ pts.length := hp ▸ Sp.ddN_pos ps _ h1; have hpm : ∀ q, q ∈ pts ↔ q ∈ ps.map Sp.lmP := (fun q => (by rw [← hp]; exact Sp.ddN_all)); have hml : 1 ≤ (ps.map Sp.lmP).length := (by rw [List.length_map]; exact h1); have hfp : Sp.Few 1048576 pts := hp ▸ Sp.ddN_few ps; have hmin : Sp.mnP pts (pts.length - 1) = h.getD 0 (0, 0) := (by rw [← hh]; exact Sp.hull_min hpm hml hp1); have hhl : 1 ≤ h.length := (hh ▸ (Sp.hull_len hml).1); have hhf : h.length ≤ pts.length := (hh ▸ Sp.hull_few hpm hml); have hls := (Sp.hull_least hml).2; rw [hh] at hls; have hfh : Sp.Few 1048576 h := Sp.few_sub (by decide) (Sp.few_lim ps) (fun q hq => Sp.hull_sub (hh ▸ hq)); have hnx : ∀ n, n < h.length → Sp.nxJ pts (h.getD n (0, 0)) pts.length = h.getD ((n + 1) % h.length) (0, 0) := (fun n hn => (by rw [← hh] at hn ⊢; exact Sp.nx_hull hpm hml hn))
  refine ac_in Try.func38 (fun w0 W pin => ?_)
  refine aw_p 3 (
    .a 1 2 <| .nil _ _) ?_
  refine aw_p 7 (
    .a 1 2 <| .nil _ _) ?_
  refine aw_sq 14 15 ?_
  refine aw_p 29 (
    .a 3 2 <| .nil _ _) ?_
  refine aw_bl 0 59 ?_
  refine aw_lp 119 ?_
  refine al_round ?_
  refine aw_p 239 (
    .p (does_b true ((show (decide (0 < ((ps.length : Nat) : Int))) = true from decide_eq_true (by omega)))) <| .nil _ _) ?_
  refine aw_sq 478 479 ?_
  refine aw_tr 956 ?_
  refine aw_sk ?_
  refine then_normal ?_
  refine aw_sq 958 959 ?_
  refine aw_bl 1 1917 ?_
  refine aw_p 3835 (
    .p (does_indexSlice (t := 24) (x := .tmp 12) (y := .tmp 14) (k := 0) (off := 0) (n := ps.length) (c := 0) (z := 2) (kd := .i64) (j := 0) (by kernel_rfl) (by kernel_rfl) (by kernel_rfl) (by kernel_rfl) (by kernel_rfl) (by omega) (by omega)) <|
    .p (does_load (t := 29) (x := .tmp 16) (k := 0) (off := 0) (b := ⟨(ps.flatMap ptc), 29, false, 2⟩) (v := .agg #[.int .i64 ((ps.getD 0 (0, 0)).1), .int .i64 ((ps.getD 0 (0, 0)).2)]) (by kernel_rfl) (by kernel_rfl) (by kernel_rfl) (ldV_pair (j := 0) (by kernel_rfl) (by kernel_rfl) (by omega) (by omega))) <|
    .a 2 2 <| .nil _ _) ?_
  refine aw_p 7671 (
    .a 1 3 <| .p (does_c (rvalid_ok ((ps.getD 0 (0, 0)).1) ((ps.getD 0 (0, 0)).2))) <| .a 1 3 <| .nil _ _) ?_
  refine aw_p 15343 (
    .a 2 3 <| .p (does_c (containsnil_ok (Sp.lim 1048576 ((ps.getD 0 (0, 0)).1)) (Sp.lim 1048576 ((ps.getD 0 (0, 0)).2)))) <| .a 1 3 <| .nil _ _) ?_
  refine aw_tr 30686 ?_
  refine aw_p1 (
    .a 3 3 <| .p (does_ap 4) <| .a 1 5 <| .nil _ _) ?_
  refine block_normal ?_
  refine then_normal ?_
  refine aw_p1 (
    .a 2 5 <| .nil _ _) ?_
  refine then_normal ?_
  refine al_w [(2, .slice none 0 0), (3, .slice (some ⟨4, 0, none⟩) ((Sp.ddN ps 1).length) 0), (12, .slice (some ⟨0, 0, none⟩) ps.length 0), (13, .int .i64 ((ps.length : Nat) : Int)), (14, .int .i64 ((1 : Nat) : Int))] [(0, ⟨(ps.flatMap ptc), 29, false, 2⟩), (4, ⟨((Sp.ddN ps 1).flatMap ptc), 29, true, 2⟩)] ?_ (hc := (by simp [closedB, valsB, valB, List.all_eq_true, List.mem_flatMap, List.mem_range, List.mem_map, i64v, ptc, flat1]; try (intros; simp [valsB, valB, flat1]); try decide))
  refine al_ind (fun i : Nat => (fun (u : Nat) => mkSt 1 [(2, .slice none 0 0), (3, .slice (some ⟨4, 0, none⟩) ((Sp.ddN ps u).length) 0), (12, .slice (some ⟨0, 0, none⟩) ps.length 0), (13, .int .i64 ((ps.length : Nat) : Int)), (14, .int .i64 ((u : Nat) : Int))] [(0, ⟨(ps.flatMap ptc), 29, false, 2⟩), (4, ⟨((Sp.ddN ps u).flatMap ptc), 29, true, 2⟩)]) i) (fun i : Nat => (fun (u : Nat) => (1 ≤ u ∧ u ≤ ps.length)) i) (fun i : Nat => (fun (u : Nat) => ps.length - u) i) (fun i hi1 ih1 => ?_) 1 (show (1 ≤ 1 ∧ 1 ≤ ps.length) from by omega)
  obtain ⟨u, hv1⟩ : ∃ z, z = i := ⟨i, rfl⟩; subst hv1
  have hi1' : (1 ≤ u ∧ u ≤ ps.length) := hi1
  have hi : 1 ≤ u ∧ u ≤ ps.length := hi1'
  show AL _ _ _ (mkSt 1 [(2, .slice none 0 0), (3, .slice (some ⟨4, 0, none⟩) ((Sp.ddN ps u).length) 0), (12, .slice (some ⟨0, 0, none⟩) ps.length 0), (13, .int .i64 ((ps.length : Nat) : Int)), (14, .int .i64 ((u : Nat) : Int))] [(0, ⟨(ps.flatMap ptc), 29, false, 2⟩), (4, ⟨((Sp.ddN ps u).flatMap ptc), 29, true, 2⟩)]) _
  have hdl := Sp.ddN_len ps u; have hdp := Sp.ddN_pos ps u (by omega)
  refine al_round ?_
  refine aw_p 239 (
    .a 1 5 <| .nil _ _) ?_
  refine aw_sq 478 479 ?_
  refine aw_cd 956 957 (decide (((u : Nat) : Int) < ((ps.length : Nat) : Int))) (fun h1 => ?_) (fun h1 => ?_)
  · have h1p : ((((u : Nat) : Int) < ((ps.length : Nat) : Int))) := by first | (simpa using h1) | (have h1q := h1; simp at h1q; omega) | (have h1q := bx1 h1; simp at h1q; omega)
    have hul : u < ps.length := by omega
    refine aw_sk ?_
    refine then_normal ?_
    refine aw_sq 958 959 ?_
    refine aw_bl 1 1917 ?_
    refine aw_p 3835 (
      .p (does_indexSlice (t := 24) (x := .tmp 12) (y := .tmp 14) (k := 0) (off := 0) (n := ps.length) (c := 0) (z := 2) (kd := .i64) (j := ((u : Nat) : Int)) (by kernel_rfl) (by kernel_rfl) (by kernel_rfl) (by kernel_rfl) (by kernel_rfl) (by omega) (by omega)) <|
      .p (does_load (t := 29) (x := .tmp 16) (k := 0) (off := (0 + (((u : Nat) : Int)).toNat * 2)) (b := ⟨(ps.flatMap ptc), 29, false, 2⟩) (v := .agg #[.int .i64 ((ps.getD u (0, 0)).1), .int .i64 ((ps.getD u (0, 0)).2)]) (by kernel_rfl) (by kernel_rfl) (by kernel_rfl) (ldV_pair (j := u) (by kernel_rfl) (by kernel_rfl) (by omega) (by omega))) <|
      .a 2 5 <| .nil _ _) ?_
    refine aw_p 7671 (
      .a 1 6 <| .p (does_c (rvalid_ok ((ps.getD u (0, 0)).1) ((ps.getD u (0, 0)).2))) <| .a 1 6 <| .nil _ _) ?_
    refine aw_p 15343 (
      .a 2 6 <|
      .p (does_callB (x := .func 21) (ars := #[.tmp 20, .tmp 21]) (ats := #[24, 29]) (g := 21) (vs := [.slice (some ⟨4, 0, none⟩) ((Sp.ddN ps u).length) 0, .agg #[.int .i64 (Sp.lim 1048576 ((ps.getD u (0, 0)).1)), .int .i64 (Sp.lim 1048576 ((ps.getD u (0, 0)).2))]]) (m := 1) (r := 0) (firsts := #[]) (caps := #[]) (args0 := [.slice (some ⟨0, 0, none⟩) ((Sp.ddN ps u).length) 0, .agg #[.int .i64 (Sp.lim 1048576 ((ps.getD u (0, 0)).1)), .int .i64 (Sp.lim 1048576 ((ps.getD u (0, 0)).2))]]) (pre0 := [(0, ⟨((Sp.ddN ps u).flatMap ptc), 29, true, 2⟩)]) (post0 := [(0, ⟨((Sp.ddN ps u).flatMap ptc), 29, true, 2⟩)]) (pre := [(4, ⟨((Sp.ddN ps u).flatMap ptc), 29, true, 2⟩)]) (post := [(4, ⟨((Sp.ddN ps u).flatMap ptc), 29, true, 2⟩)]) (v0 := .bool ((Sp.ddN ps u).any (Sp.eqTo (Sp.lim 1048576 ((ps.getD u (0, 0)).1), Sp.lim 1048576 ((ps.getD u (0, 0)).2))))) (v := .bool ((Sp.ddN ps u).any (Sp.eqTo (Sp.lim 1048576 ((ps.getD u (0, 0)).1), Sp.lim 1048576 ((ps.getD u (0, 0)).2))))) [4] (by kernel_rfl) (by kernel_rfl) (by kernel_rfl) (by kernel_rfl) (contains_ok (Sp.ddN ps u) (by omega) (by omega) (Sp.lim 1048576 ((ps.getD u (0, 0)).1)) (Sp.lim 1048576 ((ps.getD u (0, 0)).2))) (.cons (.slice _ _ _ _ _ (by decide)) (.cons (.flatB (by kernel_rfl)) .nil)) ⟨rfl, ⟨rfl, rfl, rfl, (.flats (flats_pair _))⟩, trivial⟩ (by kernel_rfl) (by kernel_rfl) (by kernel_rfl) ⟨rfl, ⟨rfl, rfl, rfl, (.flats (flats_pair _))⟩, trivial⟩ (.flatB (by kernel_rfl))) <|
      .a 1 6 <| .nil _ _) ?_
    refine aw_cd 30686 30687 (!((Sp.ddN ps u).any (Sp.eqTo (Sp.lim 1048576 ((ps.getD u (0, 0)).1), Sp.lim 1048576 ((ps.getD u (0, 0)).2))))) (fun h2 => ?_) (fun h2 => ?_)
    · refine aw_p1 (
        .a 3 6 <|
        .p (does_apy 7 29 2 16 4 ((Sp.ddN ps u).length) 6 1 ⟨((Sp.ddN ps u).flatMap ptc), 29, true, 2⟩ ⟨[.int .i64 (Sp.lim 1048576 ((ps.getD u (0, 0)).1)), .int .i64 (Sp.lim 1048576 ((ps.getD u (0, 0)).2))], 29, true, 2⟩ ((Sp.ddN ps (u + 1)).flatMap ptc) (by kernel_rfl) (by kernel_rfl) (by kernel_rfl) (by kernel_rfl) (by kernel_rfl) (by show ((Sp.ddN ps u).flatMap ptc).length = _; rw [pairs_length]; omega) (by omega) (by omega) (Sp.ddN_cells (Sp.nb_t (by assumption)) rfl)) <|
        .a 1 8 <| .nil _ _) ?_
      refine block_normal ?_
      refine then_normal ?_
      refine aw_p1 (
        .p (does_i (((u : Nat) : Int) + 1) (wrap_i64 (by omega) (by omega)) .i64) <| .a 1 8 <| .nil _ _) ?_
      refine then_normal ?_
      refine al_w [(2, .slice none 0 0), (3, .slice (some ⟨7, 0, none⟩) ((Sp.ddN ps (u + 1)).length) 0), (12, .slice (some ⟨0, 0, none⟩) ps.length 0), (13, .int .i64 ((ps.length : Nat) : Int)), (14, .int .i64 (((u : Nat) : Int) + 1))] [(0, ⟨(ps.flatMap ptc), 29, false, 2⟩), (7, ⟨((Sp.ddN ps (u + 1)).flatMap ptc), 29, true, 2⟩)] ?_ (by (rw [Sp.ddN_newlen (Sp.nb_t (by assumption))]); kernel_rfl) (by kernel_rfl) (hc := (by simp [closedB, valsB, valB, List.all_eq_true, List.mem_flatMap, List.mem_range, List.mem_map, i64v, ptc, flat1]; try (intros; simp [valsB, valB, flat1]); try decide))
      refine al_r [(4, 7)] [(2, .slice none 0 0), (3, .slice (some ⟨7, 0, none⟩) ((Sp.ddN ps (u + 1)).length) 0), (12, .slice (some ⟨0, 0, none⟩) ps.length 0), (13, .int .i64 ((ps.length : Nat) : Int)), (14, .int .i64 (((u + 1) : Nat) : Int))] [(0, ⟨(ps.flatMap ptc), 29, false, 2⟩), (7, ⟨((Sp.ddN ps (u + 1)).flatMap ptc), 29, true, 2⟩)] [(2, .slice none 0 0), (3, .slice (some ⟨4, 0, none⟩) ((Sp.ddN ps (u + 1)).length) 0), (12, .slice (some ⟨0, 0, none⟩) ps.length 0), (13, .int .i64 ((ps.length : Nat) : Int)), (14, .int .i64 (((u + 1) : Nat) : Int))] [(0, ⟨(ps.flatMap ptc), 29, false, 2⟩), (4, ⟨((Sp.ddN ps (u + 1)).flatMap ptc), 29, true, 2⟩)] ?_ ⟨rfl, (.flatB (by kernel_rfl)), rfl, (.slice _ _ _ _ _ rfl), rfl, (.slice _ _ _ _ _ rfl), rfl, (.flatB (by kernel_rfl)), rfl, (.flatB (by kernel_rfl)), trivial⟩ ⟨rfl, ⟨rfl, rfl, rfl, (.flats (flats_pair _))⟩, rfl, ⟨rfl, rfl, rfl, (.flats (flats_pair _))⟩, trivial⟩
      exact ih1 (u + 1) (show (1 ≤ (u + 1) ∧ (u + 1) ≤ ps.length) from by omega) (show ps.length - (u + 1) < ps.length - u from by omega)
    · refine aw_sk ?_
      refine block_normal ?_
      refine then_normal ?_
      refine aw_p1 (
        .p (does_i (((u : Nat) : Int) + 1) (wrap_i64 (by omega) (by omega)) .i64) <| .a 1 6 <| .nil _ _) ?_
      refine then_normal ?_
      refine al_w [(2, .slice none 0 0), (3, .slice (some ⟨4, 0, none⟩) ((Sp.ddN ps (u + 1)).length) 0), (12, .slice (some ⟨0, 0, none⟩) ps.length 0), (13, .int .i64 ((ps.length : Nat) : Int)), (14, .int .i64 (((u : Nat) : Int) + 1))] [(0, ⟨(ps.flatMap ptc), 29, false, 2⟩), (4, ⟨((Sp.ddN ps (u + 1)).flatMap ptc), 29, true, 2⟩)] ?_ (by (rw [Sp.ddN_same (Sp.nb_f (by assumption))]); kernel_rfl) (by (rw [Sp.ddN_same (Sp.nb_f (by assumption))]); kernel_rfl) (hc := (by simp [closedB, valsB, valB, List.all_eq_true, List.mem_flatMap, List.mem_range, List.mem_map, i64v, ptc, flat1]; try (intros; simp [valsB, valB, flat1]); try decide))
      refine al_w [(2, .slice none 0 0), (3, .slice (some ⟨4, 0, none⟩) ((Sp.ddN ps (u + 1)).length) 0), (12, .slice (some ⟨0, 0, none⟩) ps.length 0), (13, .int .i64 ((ps.length : Nat) : Int)), (14, .int .i64 (((u + 1) : Nat) : Int))] [(0, ⟨(ps.flatMap ptc), 29, false, 2⟩), (4, ⟨((Sp.ddN ps (u + 1)).flatMap ptc), 29, true, 2⟩)] ?_ (hc := (by simp [closedB, valsB, valB, List.all_eq_true, List.mem_flatMap, List.mem_range, List.mem_map, i64v, ptc, flat1]; try (intros; simp [valsB, valB, flat1]); try decide))
      exact ih1 (u + 1) (show (1 ≤ (u + 1) ∧ (u + 1) ≤ ps.length) from by omega) (show ps.length - (u + 1) < ps.length - u from by omega)
  · have h1p : ¬ ((((u : Nat) : Int) < ((ps.length : Nat) : Int))) := by first | (simpa using h1) | (have h1q := h1; simp at h1q; omega) | (have h1q := bx2 h1; simp at h1q; omega)
    have hin : u = ps.length := by omega
    refine aw_ex 0 ?_
    refine then_exit ?_
    refine then_exit ?_
    refine block_exit ?_
    refine then_normal ?_
    refine aw_w [(2, .slice none 0 0), (3, .slice (some ⟨4, 0, none⟩) pts.length 0)] [(0, ⟨(ps.flatMap ptc), 29, false, 2⟩), (4, ⟨(pts.flatMap ptc), 29, true, 2⟩)] ?_ (by (try rw [show pts = Sp.ddN ps u from (by rw [hin]; exact hp.symm)]); kernel_rfl) (by (try rw [show pts = Sp.ddN ps u from (by rw [hin]; exact hp.symm)]); kernel_rfl) (hc := (by simp [closedB, valsB, valB, List.all_eq_true, List.mem_flatMap, List.mem_range, List.mem_map, i64v, ptc, flat1]; try (intros; simp [valsB, valB, flat1]); try decide))
    refine aw_sq 30 31 ?_
    refine aw_p 61 (
      .a 2 5 <| .p (does_b false ((show (((pts.length : Nat) : Int) == 0) = false from (by rw [beq_eq_false_iff_ne]; omega)))) <| .nil _ _) ?_
    refine aw_fl 123 ?_
    refine aw_sk ?_
    refine then_normal ?_
    refine aw_p 63 (
      .a 1 5 <|
      .p (does_callB (x := .func 46) (ars := #[.tmp 32, .func 86]) (ats := #[24, 52]) (g := 46) (vs := [.slice (some ⟨4, 0, none⟩) pts.length 0, .func (.func 86) #[] #[]]) (m := 1) (r := 0) (firsts := #[]) (caps := #[]) (args0 := [.slice (some ⟨0, 0, none⟩) pts.length 0, .func (.func 86) #[] #[]]) (pre0 := [(0, ⟨(pts.flatMap ptc), 29, true, 2⟩)]) (post0 := [(0, ⟨(pts.flatMap ptc), 29, true, 2⟩)]) (pre := [(4, ⟨(pts.flatMap ptc), 29, true, 2⟩)]) (post := [(4, ⟨(pts.flatMap ptc), 29, true, 2⟩)]) (v0 := .agg #[.int .i64 ((h.getD 0 (0, 0)).1), .int .i64 ((h.getD 0 (0, 0)).2)]) (v := .agg #[.int .i64 ((h.getD 0 (0, 0)).1), .int .i64 ((h.getD 0 (0, 0)).2)]) [4] (by kernel_rfl) (by kernel_rfl) (by kernel_rfl) (by kernel_rfl) ((by have q := minf_ok pts hp1 (by omega); rw [hmin] at q; exact q)) (.cons (.slice _ _ _ _ _ (by decide)) (.cons (.flatB (by kernel_rfl)) .nil)) ⟨rfl, ⟨rfl, rfl, rfl, (.flats (flats_pair _))⟩, trivial⟩ (by kernel_rfl) (by kernel_rfl) (by kernel_rfl) ⟨rfl, ⟨rfl, rfl, rfl, (.flats (flats_pair _))⟩, trivial⟩ (.flatB (by kernel_rfl))) <|
      .a 2 5 <| .nil _ _) ?_
    refine aw_p 127 (
      .a 3 6 <| .nil _ _) ?_
    refine aw_w [(2, .slice none 0 0), (3, .slice (some ⟨4, 0, none⟩) pts.length 0), (6, .pointer (some ⟨5, 0, none⟩)), (7, .slice (some ⟨6, 0, none⟩) (0 + 1) 0)] [(0, ⟨(ps.flatMap ptc), 29, false, 2⟩), (4, ⟨(pts.flatMap ptc), 29, true, 2⟩), (5, ⟨[.int .i64 ((h.getD 0 (0, 0)).1), .int .i64 ((h.getD 0 (0, 0)).2)], 29, true, 2⟩), (6, ⟨((h.take (0 + 1)).flatMap ptc), 29, true, 2⟩)] ?_ (by (try rw [Sp.one_tk hhl rfl]); kernel_rfl) (by (try rw [Sp.one_tk hhl rfl]); kernel_rfl) (hc := (by simp [closedB, valsB, valB, List.all_eq_true, List.mem_flatMap, List.mem_range, List.mem_map, i64v, ptc, flat1]; try (intros; simp [valsB, valB, flat1]); try decide))
    refine aw_bl 2 255 ?_
    refine aw_lp 511 ?_
    refine al_w [(2, .slice none 0 0), (3, .slice (some ⟨4, 0, none⟩) pts.length 0), (6, .pointer (some ⟨5, 0, none⟩)), (7, .slice (some ⟨6, 0, none⟩) (0 + 1) 0)] [(0, ⟨(ps.flatMap ptc), 29, false, 2⟩), (4, ⟨(pts.flatMap ptc), 29, true, 2⟩), (5, ⟨[.int .i64 ((h.getD 0 (0, 0)).1), .int .i64 ((h.getD 0 (0, 0)).2)], 29, true, 2⟩), (6, ⟨((h.take (0 + 1)).flatMap ptc), 29, true, 2⟩)] ?_ (hc := (by simp [closedB, valsB, valB, List.all_eq_true, List.mem_flatMap, List.mem_range, List.mem_map, i64v, ptc, flat1]; try (intros; simp [valsB, valB, flat1]); try decide))
    refine al_ind (fun i : Nat × Int × Int => (fun (v : Nat) (ax : Int) (ay : Int) => mkSt 1 [(2, .slice none 0 0), (3, .slice (some ⟨4, 0, none⟩) pts.length 0), (6, .pointer (some ⟨5, 0, none⟩)), (7, .slice (some ⟨6, 0, none⟩) (v + 1) 0)] [(0, ⟨(ps.flatMap ptc), 29, false, 2⟩), (4, ⟨(pts.flatMap ptc), 29, true, 2⟩), (5, ⟨[.int .i64 ax, .int .i64 ay], 29, true, 2⟩), (6, ⟨((h.take (v + 1)).flatMap ptc), 29, true, 2⟩)]) i.1 i.2.1 i.2.2) (fun i : Nat × Int × Int => (fun (v : Nat) (ax : Int) (ay : Int) => (v + 1 ≤ h.length) ∧ ((ax, ay) = h.getD v (0, 0)) ∧ ((-1048576 ≤ ax ∧ ax ≤ 1048576) ∧ (-1048576 ≤ ay ∧ ay ≤ 1048576))) i.1 i.2.1 i.2.2) (fun i : Nat × Int × Int => (fun (v : Nat) (ax : Int) (ay : Int) => h.length - v) i.1 i.2.1 i.2.2) (fun i hi2 ih2 => ?_) (0, ((h.getD 0 (0, 0)).1), ((h.getD 0 (0, 0)).2)) (show (0 + 1 ≤ h.length) ∧ ((((h.getD 0 (0, 0)).1), ((h.getD 0 (0, 0)).2)) = h.getD 0 (0, 0)) ∧ ((-1048576 ≤ ((h.getD 0 (0, 0)).1) ∧ ((h.getD 0 (0, 0)).1) ≤ 1048576) ∧ (-1048576 ≤ ((h.getD 0 (0, 0)).2) ∧ ((h.getD 0 (0, 0)).2) ≤ 1048576)) from ⟨by omega, by rfl, by exact hfh 0⟩)
    obtain ⟨v, ax, ay⟩ := i
    have hi2' : (v + 1 ≤ h.length) ∧ ((ax, ay) = h.getD v (0, 0)) ∧ ((-1048576 ≤ ax ∧ ax ≤ 1048576) ∧ (-1048576 ≤ ay ∧ ay ≤ 1048576)) := hi2
    obtain ⟨hi, ha, ba⟩ := hi2'
    show AL _ _ _ (mkSt 1 [(2, .slice none 0 0), (3, .slice (some ⟨4, 0, none⟩) pts.length 0), (6, .pointer (some ⟨5, 0, none⟩)), (7, .slice (some ⟨6, 0, none⟩) (v + 1) 0)] [(0, ⟨(ps.flatMap ptc), 29, false, 2⟩), (4, ⟨(pts.flatMap ptc), 29, true, 2⟩), (5, ⟨[.int .i64 ax, .int .i64 ay], 29, true, 2⟩), (6, ⟨((h.take (v + 1)).flatMap ptc), 29, true, 2⟩)]) _
    have htl : (h.take (v + 1)).length = v + 1 := (by rw [List.length_take]; omega)
    refine al_round ?_
    refine aw_bl 3 1023 ?_
    refine aw_p 2047 (
      .a 3 7 <| .nil _ _) ?_
    refine aw_sq 4094 4095 ?_
    refine aw_p 8189 (
      .a 3 8 <| .nil _ _) ?_
    refine aw_bl 4 16379 ?_
    refine aw_lp 32759 ?_
    refine al_w [(2, .slice none 0 0), (3, .slice (some ⟨4, 0, none⟩) pts.length 0), (6, .pointer (some ⟨5, 0, none⟩)), (7, .slice (some ⟨6, 0, none⟩) (v + 1) 0), (8, .pointer (some ⟨7, 0, none⟩)), (37, .slice (some ⟨4, 0, none⟩) pts.length 0), (38, .int .i64 ((pts.length : Nat) : Int)), (39, .int .i64 ((0 : Nat) : Int))] [(0, ⟨(ps.flatMap ptc), 29, false, 2⟩), (4, ⟨(pts.flatMap ptc), 29, true, 2⟩), (5, ⟨[.int .i64 ax, .int .i64 ay], 29, true, 2⟩), (6, ⟨((h.take (v + 1)).flatMap ptc), 29, true, 2⟩), (7, ⟨[.int .i64 ax, .int .i64 ay], 29, true, 2⟩)] ?_ (hc := (by simp [closedB, valsB, valB, List.all_eq_true, List.mem_flatMap, List.mem_range, List.mem_map, i64v, ptc, flat1]; try (intros; simp [valsB, valB, flat1]); try decide))
    refine al_ind (fun i : Nat × Int × Int => (fun (k : Nat) (x : Int) (y : Int) => mkSt 1 [(2, .slice none 0 0), (3, .slice (some ⟨4, 0, none⟩) pts.length 0), (6, .pointer (some ⟨5, 0, none⟩)), (7, .slice (some ⟨6, 0, none⟩) (v + 1) 0), (8, .pointer (some ⟨7, 0, none⟩)), (37, .slice (some ⟨4, 0, none⟩) pts.length 0), (38, .int .i64 ((pts.length : Nat) : Int)), (39, .int .i64 ((k : Nat) : Int))] [(0, ⟨(ps.flatMap ptc), 29, false, 2⟩), (4, ⟨(pts.flatMap ptc), 29, true, 2⟩), (5, ⟨[.int .i64 ax, .int .i64 ay], 29, true, 2⟩), (6, ⟨((h.take (v + 1)).flatMap ptc), 29, true, 2⟩), (7, ⟨[.int .i64 x, .int .i64 y], 29, true, 2⟩)]) i.1 i.2.1 i.2.2) (fun i : Nat × Int × Int => (fun (k : Nat) (x : Int) (y : Int) => (k ≤ pts.length) ∧ ((x, y) = Sp.nxJ pts (ax, ay) k) ∧ ((-1048576 ≤ x ∧ x ≤ 1048576) ∧ (-1048576 ≤ y ∧ y ≤ 1048576))) i.1 i.2.1 i.2.2) (fun i : Nat × Int × Int => (fun (k : Nat) (x : Int) (y : Int) => pts.length - k) i.1 i.2.1 i.2.2) (fun i hi3 ih3 => ?_) (0, ax, ay) (show (0 ≤ pts.length) ∧ ((ax, ay) = Sp.nxJ pts (ax, ay) 0) ∧ ((-1048576 ≤ ax ∧ ax ≤ 1048576) ∧ (-1048576 ≤ ay ∧ ay ≤ 1048576)) from ⟨by omega, by rfl, by exact ba⟩)
    obtain ⟨k, x, y⟩ := i
    have hi3' : (k ≤ pts.length) ∧ ((x, y) = Sp.nxJ pts (ax, ay) k) ∧ ((-1048576 ≤ x ∧ x ≤ 1048576) ∧ (-1048576 ≤ y ∧ y ≤ 1048576)) := hi3
    obtain ⟨hk, hA, bx⟩ := hi3'
    show AL _ _ _ (mkSt 1 [(2, .slice none 0 0), (3, .slice (some ⟨4, 0, none⟩) pts.length 0), (6, .pointer (some ⟨5, 0, none⟩)), (7, .slice (some ⟨6, 0, none⟩) (v + 1) 0), (8, .pointer (some ⟨7, 0, none⟩)), (37, .slice (some ⟨4, 0, none⟩) pts.length 0), (38, .int .i64 ((pts.length : Nat) : Int)), (39, .int .i64 ((k : Nat) : Int))] [(0, ⟨(ps.flatMap ptc), 29, false, 2⟩), (4, ⟨(pts.flatMap ptc), 29, true, 2⟩), (5, ⟨[.int .i64 ax, .int .i64 ay], 29, true, 2⟩), (6, ⟨((h.take (v + 1)).flatMap ptc), 29, true, 2⟩), (7, ⟨[.int .i64 x, .int .i64 y], 29, true, 2⟩)]) _
    have fq := hfp k
    refine al_round ?_
    refine aw_p 65519 (
      .a 1 8 <| .nil _ _) ?_
    refine aw_sq 131038 131039 ?_
    refine aw_cd 262076 262077 (decide (((k : Nat) : Int) < ((pts.length : Nat) : Int))) (fun h3 => ?_) (fun h3 => ?_)
    · have h3p : ((((k : Nat) : Int) < ((pts.length : Nat) : Int))) := by first | (simpa using h3) | (have h3q := h3; simp at h3q; omega) | (have h3q := bx1 h3; simp at h3q; omega)
      have hkl : k < pts.length := by omega
      refine aw_sk ?_
      refine then_normal ?_
      refine aw_sq 262078 262079 ?_
      refine aw_bl 5 524157 ?_
      refine aw_p 1048315 (
        .p (does_indexSlice (t := 24) (x := .tmp 37) (y := .tmp 39) (k := 4) (off := 0) (n := pts.length) (c := 0) (z := 2) (kd := .i64) (j := ((k : Nat) : Int)) (by kernel_rfl) (by kernel_rfl) (by kernel_rfl) (by kernel_rfl) (by kernel_rfl) (by omega) (by omega)) <|
        .p (does_load (t := 29) (x := .tmp 41) (k := 4) (off := (0 + (((k : Nat) : Int)).toNat * 2)) (b := ⟨(pts.flatMap ptc), 29, true, 2⟩) (v := .agg #[.int .i64 ((pts.getD k (0, 0)).1), .int .i64 ((pts.getD k (0, 0)).2)]) (by kernel_rfl) (by kernel_rfl) (by kernel_rfl) (ldV_pair (j := k) (by kernel_rfl) (by kernel_rfl) (by omega) (by omega))) <|
        .a 2 8 <| .nil _ _) ?_
      refine aw_p 2096631 (
        .a 3 9 <| .p (does_c (rcross_in ax ay x y ((pts.getD k (0, 0)).1) ((pts.getD k (0, 0)).2) (by omega) (by omega) (by omega) (by omega) (by omega) (by omega) (by omega) (by omega) (by omega) (by omega) (by omega) (by omega))) <| .a 1 9 <| .nil _ _) ?_
      rcases Bool.eq_false_or_eq_true (((x == ax) && ((y == ay) && true))) with h4 | h4
      · refine aw_d 4193263 (
          .a 2 9 <| .p (does_e true (h4)) <| .a 17 9 <| .nil _ _) ?_
        refine aw_tr 8386526 ?_
        refine aw_p1 (
          .a 2 9 <| .nil _ _) ?_
        refine block_normal ?_
        refine then_normal ?_
        refine aw_p1 (
          .p (does_i (((k : Nat) : Int) + 1) (wrap_i64 (by omega) (by omega)) .i64) <| .a 1 9 <| .nil _ _) ?_
        refine then_normal ?_
        refine al_w [(2, .slice none 0 0), (3, .slice (some ⟨4, 0, none⟩) pts.length 0), (6, .pointer (some ⟨5, 0, none⟩)), (7, .slice (some ⟨6, 0, none⟩) (v + 1) 0), (8, .pointer (some ⟨7, 0, none⟩)), (37, .slice (some ⟨4, 0, none⟩) pts.length 0), (38, .int .i64 ((pts.length : Nat) : Int)), (39, .int .i64 (((k + 1) : Nat) : Int))] [(0, ⟨(ps.flatMap ptc), 29, false, 2⟩), (4, ⟨(pts.flatMap ptc), 29, true, 2⟩), (5, ⟨[.int .i64 ax, .int .i64 ay], 29, true, 2⟩), (6, ⟨((h.take (v + 1)).flatMap ptc), 29, true, 2⟩), (7, ⟨[.int .i64 ((pts.getD k (0, 0)).1), .int .i64 ((pts.getD k (0, 0)).2)], 29, true, 2⟩)] ?_ (hc := (by simp [closedB, valsB, valB, List.all_eq_true, List.mem_flatMap, List.mem_range, List.mem_map, i64v, ptc, flat1]; try (intros; simp [valsB, valB, flat1]); try decide))
        exact ih3 ((k + 1), ((pts.getD k (0, 0)).1), ((pts.getD k (0, 0)).2)) (show ((k + 1) ≤ pts.length) ∧ ((((pts.getD k (0, 0)).1), ((pts.getD k (0, 0)).2)) = Sp.nxJ pts (ax, ay) (k + 1)) ∧ ((-1048576 ≤ ((pts.getD k (0, 0)).1) ∧ ((pts.getD k (0, 0)).1) ≤ 1048576) ∧ (-1048576 ≤ ((pts.getD k (0, 0)).2) ∧ ((pts.getD k (0, 0)).2) ≤ 1048576)) from ⟨by omega, by (first | exact Sp.nxJ_y1 hA (by assumption) | exact Sp.nxJ_y2 hA (by assumption) | exact Sp.nxJ_y3 hA (by assumption) (by assumption) | exact Sp.nxJ_n1 hA (by assumption) (by assumption) (by assumption) | exact Sp.nxJ_n2 hA (by assumption) (by assumption) (by assumption)), by (first | exact bx | exact fq)⟩) (show pts.length - (k + 1) < pts.length - k from by omega)
      · rcases Bool.eq_false_or_eq_true (decide ((Sp.crs ax ay x y ((pts.getD k (0, 0)).1) ((pts.getD k (0, 0)).2)) < 0)) with h5 | h5
        · have h5p : (((Sp.crs ax ay x y ((pts.getD k (0, 0)).1) ((pts.getD k (0, 0)).2)) < 0)) := by first | (simpa using h5) | (have h5q := h5; simp at h5q; omega) | (have h5q := bx1 h5; simp at h5q; omega)
          refine aw_d 4193263 (
            .a 2 9 <| .p (does_e false (h4)) <| .a 2 9 <| .p (does_b true (h5)) <| .a 14 9 <| .nil _ _) ?_
          refine aw_tr 8386526 ?_
          refine aw_p1 (
            .a 2 9 <| .nil _ _) ?_
          refine block_normal ?_
          refine then_normal ?_
          refine aw_p1 (
            .p (does_i (((k : Nat) : Int) + 1) (wrap_i64 (by omega) (by omega)) .i64) <| .a 1 9 <| .nil _ _) ?_
          refine then_normal ?_
          refine al_w [(2, .slice none 0 0), (3, .slice (some ⟨4, 0, none⟩) pts.length 0), (6, .pointer (some ⟨5, 0, none⟩)), (7, .slice (some ⟨6, 0, none⟩) (v + 1) 0), (8, .pointer (some ⟨7, 0, none⟩)), (37, .slice (some ⟨4, 0, none⟩) pts.length 0), (38, .int .i64 ((pts.length : Nat) : Int)), (39, .int .i64 (((k + 1) : Nat) : Int))] [(0, ⟨(ps.flatMap ptc), 29, false, 2⟩), (4, ⟨(pts.flatMap ptc), 29, true, 2⟩), (5, ⟨[.int .i64 ax, .int .i64 ay], 29, true, 2⟩), (6, ⟨((h.take (v + 1)).flatMap ptc), 29, true, 2⟩), (7, ⟨[.int .i64 ((pts.getD k (0, 0)).1), .int .i64 ((pts.getD k (0, 0)).2)], 29, true, 2⟩)] ?_ (hc := (by simp [closedB, valsB, valB, List.all_eq_true, List.mem_flatMap, List.mem_range, List.mem_map, i64v, ptc, flat1]; try (intros; simp [valsB, valB, flat1]); try decide))
          exact ih3 ((k + 1), ((pts.getD k (0, 0)).1), ((pts.getD k (0, 0)).2)) (show ((k + 1) ≤ pts.length) ∧ ((((pts.getD k (0, 0)).1), ((pts.getD k (0, 0)).2)) = Sp.nxJ pts (ax, ay) (k + 1)) ∧ ((-1048576 ≤ ((pts.getD k (0, 0)).1) ∧ ((pts.getD k (0, 0)).1) ≤ 1048576) ∧ (-1048576 ≤ ((pts.getD k (0, 0)).2) ∧ ((pts.getD k (0, 0)).2) ≤ 1048576)) from ⟨by omega, by (first | exact Sp.nxJ_y1 hA (by assumption) | exact Sp.nxJ_y2 hA (by assumption) | exact Sp.nxJ_y3 hA (by assumption) (by assumption) | exact Sp.nxJ_n1 hA (by assumption) (by assumption) (by assumption) | exact Sp.nxJ_n2 hA (by assumption) (by assumption) (by assumption)), by (first | exact bx | exact fq)⟩) (show pts.length - (k + 1) < pts.length - k from by omega)
        · have h5p : ¬ (((Sp.crs ax ay x y ((pts.getD k (0, 0)).1) ((pts.getD k (0, 0)).2)) < 0)) := by first | (simpa using h5) | (have h5q := h5; simp at h5q; omega) | (have h5q := bx2 h5; simp at h5q; omega)
          rcases Bool.eq_false_or_eq_true ((Sp.crs ax ay x y ((pts.getD k (0, 0)).1) ((pts.getD k (0, 0)).2)) == 0) with h6 | h6
          · have h6p : (((Sp.crs ax ay x y ((pts.getD k (0, 0)).1) ((pts.getD k (0, 0)).2)) = 0)) := by first | (simpa using h6) | (have h6q := h6; simp at h6q; omega) | (have h6q := bx1 h6; simp at h6q; omega)
            refine aw_d 4193263 (
              .a 2 9 <| .p (does_e false (h4)) <| .a 2 9 <| .p (does_b false (h5)) <| .a 3 9 <| .p (does_b true (h6)) <| .a 3 9 <| .p (does_c (rfar_in ax ay ((pts.getD k (0, 0)).1) ((pts.getD k (0, 0)).2) (by omega) (by omega) (by omega) (by omega) (by omega) (by omega) (by omega) (by omega))) <| .a 2 9 <|
              .p (does_c (rfar_in ax ay x y (by omega) (by omega) (by omega) (by omega) (by omega) (by omega) (by omega) (by omega))) <| .a 3 9 <| .nil _ _) ?_
            refine aw_cd 8386526 8386527 (decide ((Sp.dot ax ay ((pts.getD k (0, 0)).1) ((pts.getD k (0, 0)).2) ((pts.getD k (0, 0)).1) ((pts.getD k (0, 0)).2)) > (Sp.dot ax ay x y x y))) (fun h7 => ?_) (fun h7 => ?_)
            · have h7p : (((Sp.dot ax ay ((pts.getD k (0, 0)).1) ((pts.getD k (0, 0)).2) ((pts.getD k (0, 0)).1) ((pts.getD k (0, 0)).2)) > (Sp.dot ax ay x y x y))) := by first | (simpa using h7) | (have h7q := h7; simp at h7q; omega) | (have h7q := bx1 h7; simp at h7q; omega)
              refine aw_p1 (
                .a 2 9 <| .nil _ _) ?_
              refine block_normal ?_
              refine then_normal ?_
              refine aw_p1 (
                .p (does_i (((k : Nat) : Int) + 1) (wrap_i64 (by omega) (by omega)) .i64) <| .a 1 9 <| .nil _ _) ?_
              refine then_normal ?_
              refine al_w [(2, .slice none 0 0), (3, .slice (some ⟨4, 0, none⟩) pts.length 0), (6, .pointer (some ⟨5, 0, none⟩)), (7, .slice (some ⟨6, 0, none⟩) (v + 1) 0), (8, .pointer (some ⟨7, 0, none⟩)), (37, .slice (some ⟨4, 0, none⟩) pts.length 0), (38, .int .i64 ((pts.length : Nat) : Int)), (39, .int .i64 (((k + 1) : Nat) : Int))] [(0, ⟨(ps.flatMap ptc), 29, false, 2⟩), (4, ⟨(pts.flatMap ptc), 29, true, 2⟩), (5, ⟨[.int .i64 ax, .int .i64 ay], 29, true, 2⟩), (6, ⟨((h.take (v + 1)).flatMap ptc), 29, true, 2⟩), (7, ⟨[.int .i64 ((pts.getD k (0, 0)).1), .int .i64 ((pts.getD k (0, 0)).2)], 29, true, 2⟩)] ?_ (hc := (by simp [closedB, valsB, valB, List.all_eq_true, List.mem_flatMap, List.mem_range, List.mem_map, i64v, ptc, flat1]; try (intros; simp [valsB, valB, flat1]); try decide))
              exact ih3 ((k + 1), ((pts.getD k (0, 0)).1), ((pts.getD k (0, 0)).2)) (show ((k + 1) ≤ pts.length) ∧ ((((pts.getD k (0, 0)).1), ((pts.getD k (0, 0)).2)) = Sp.nxJ pts (ax, ay) (k + 1)) ∧ ((-1048576 ≤ ((pts.getD k (0, 0)).1) ∧ ((pts.getD k (0, 0)).1) ≤ 1048576) ∧ (-1048576 ≤ ((pts.getD k (0, 0)).2) ∧ ((pts.getD k (0, 0)).2) ≤ 1048576)) from ⟨by omega, by (first | exact Sp.nxJ_y1 hA (by assumption) | exact Sp.nxJ_y2 hA (by assumption) | exact Sp.nxJ_y3 hA (by assumption) (by assumption) | exact Sp.nxJ_n1 hA (by assumption) (by assumption) (by assumption) | exact Sp.nxJ_n2 hA (by assumption) (by assumption) (by assumption)), by (first | exact bx | exact fq)⟩) (show pts.length - (k + 1) < pts.length - k from by omega)
            · have h7p : ¬ (((Sp.dot ax ay ((pts.getD k (0, 0)).1) ((pts.getD k (0, 0)).2) ((pts.getD k (0, 0)).1) ((pts.getD k (0, 0)).2)) > (Sp.dot ax ay x y x y))) := by first | (simpa using h7) | (have h7q := h7; simp at h7q; omega) | (have h7q := bx2 h7; simp at h7q; omega)
              refine aw_sk ?_
              refine block_normal ?_
              refine then_normal ?_
              refine aw_p1 (
                .p (does_i (((k : Nat) : Int) + 1) (wrap_i64 (by omega) (by omega)) .i64) <| .a 1 9 <| .nil _ _) ?_
              refine then_normal ?_
              refine al_w [(2, .slice none 0 0), (3, .slice (some ⟨4, 0, none⟩) pts.length 0), (6, .pointer (some ⟨5, 0, none⟩)), (7, .slice (some ⟨6, 0, none⟩) (v + 1) 0), (8, .pointer (some ⟨7, 0, none⟩)), (37, .slice (some ⟨4, 0, none⟩) pts.length 0), (38, .int .i64 ((pts.length : Nat) : Int)), (39, .int .i64 (((k + 1) : Nat) : Int))] [(0, ⟨(ps.flatMap ptc), 29, false, 2⟩), (4, ⟨(pts.flatMap ptc), 29, true, 2⟩), (5, ⟨[.int .i64 ax, .int .i64 ay], 29, true, 2⟩), (6, ⟨((h.take (v + 1)).flatMap ptc), 29, true, 2⟩), (7, ⟨[.int .i64 x, .int .i64 y], 29, true, 2⟩)] ?_ (hc := (by simp [closedB, valsB, valB, List.all_eq_true, List.mem_flatMap, List.mem_range, List.mem_map, i64v, ptc, flat1]; try (intros; simp [valsB, valB, flat1]); try decide))
              exact ih3 ((k + 1), x, y) (show ((k + 1) ≤ pts.length) ∧ ((x, y) = Sp.nxJ pts (ax, ay) (k + 1)) ∧ ((-1048576 ≤ x ∧ x ≤ 1048576) ∧ (-1048576 ≤ y ∧ y ≤ 1048576)) from ⟨by omega, by (first | exact Sp.nxJ_y1 hA (by assumption) | exact Sp.nxJ_y2 hA (by assumption) | exact Sp.nxJ_y3 hA (by assumption) (by assumption) | exact Sp.nxJ_n1 hA (by assumption) (by assumption) (by assumption) | exact Sp.nxJ_n2 hA (by assumption) (by assumption) (by assumption)), by (first | exact bx | exact fq)⟩) (show pts.length - (k + 1) < pts.length - k from by omega)
          · have h6p : ¬ (((Sp.crs ax ay x y ((pts.getD k (0, 0)).1) ((pts.getD k (0, 0)).2)) = 0)) := by first | (simpa using h6) | (have h6q := h6; simp at h6q; omega) | (have h6q := bx2 h6; simp at h6q; omega)
            refine aw_d 4193263 (
              .a 2 9 <| .p (does_e false (h4)) <| .a 2 9 <| .p (does_b false (h5)) <| .a 3 9 <| .p (does_b false (h6)) <| .a 10 9 <| .nil _ _) ?_
            refine aw_fl 8386527 ?_
            refine aw_sk ?_
            refine block_normal ?_
            refine then_normal ?_
            refine aw_p1 (
              .p (does_i (((k : Nat) : Int) + 1) (wrap_i64 (by omega) (by omega)) .i64) <| .a 1 9 <| .nil _ _) ?_
            refine then_normal ?_
            refine al_w [(2, .slice none 0 0), (3, .slice (some ⟨4, 0, none⟩) pts.length 0), (6, .pointer (some ⟨5, 0, none⟩)), (7, .slice (some ⟨6, 0, none⟩) (v + 1) 0), (8, .pointer (some ⟨7, 0, none⟩)), (37, .slice (some ⟨4, 0, none⟩) pts.length 0), (38, .int .i64 ((pts.length : Nat) : Int)), (39, .int .i64 (((k + 1) : Nat) : Int))] [(0, ⟨(ps.flatMap ptc), 29, false, 2⟩), (4, ⟨(pts.flatMap ptc), 29, true, 2⟩), (5, ⟨[.int .i64 ax, .int .i64 ay], 29, true, 2⟩), (6, ⟨((h.take (v + 1)).flatMap ptc), 29, true, 2⟩), (7, ⟨[.int .i64 x, .int .i64 y], 29, true, 2⟩)] ?_ (hc := (by simp [closedB, valsB, valB, List.all_eq_true, List.mem_flatMap, List.mem_range, List.mem_map, i64v, ptc, flat1]; try (intros; simp [valsB, valB, flat1]); try decide))
            exact ih3 ((k + 1), x, y) (show ((k + 1) ≤ pts.length) ∧ ((x, y) = Sp.nxJ pts (ax, ay) (k + 1)) ∧ ((-1048576 ≤ x ∧ x ≤ 1048576) ∧ (-1048576 ≤ y ∧ y ≤ 1048576)) from ⟨by omega, by (first | exact Sp.nxJ_y1 hA (by assumption) | exact Sp.nxJ_y2 hA (by assumption) | exact Sp.nxJ_y3 hA (by assumption) (by assumption) | exact Sp.nxJ_n1 hA (by assumption) (by assumption) (by assumption) | exact Sp.nxJ_n2 hA (by assumption) (by assumption) (by assumption)), by (first | exact bx | exact fq)⟩) (show pts.length - (k + 1) < pts.length - k from by omega)
    · have h3p : ¬ ((((k : Nat) : Int) < ((pts.length : Nat) : Int))) := by first | (simpa using h3) | (have h3q := h3; simp at h3q; omega) | (have h3q := bx2 h3; simp at h3q; omega)
      have hke : k = pts.length := by omega
      have hxy : (x, y) = h.getD ((v + 1) % h.length) (0, 0) := (by rw [hA, hke, ha]; exact hnx v (by omega))
      refine aw_ex 4 ?_
      refine then_exit ?_
      refine then_exit ?_
      refine block_exit ?_
      refine then_normal ?_
      refine aw_sq 8190 8191 ?_
      refine aw_p 16381 (
        .a 2 8 <| .nil _ _) ?_
      rcases Bool.eq_false_or_eq_true (((x == (((h.take (v + 1)).getD 0 (0, 0)).1)) && ((y == (((h.take (v + 1)).getD 0 (0, 0)).2)) && true))) with h8 | h8
      · have hn := Sp.ring_end hls hi hxy (by have q := h8; rw [Sp.take_0] at q; exact q)
        refine aw_d 32763 (
          .a 2 8 <| .p (does_indexSlice (t := 24) (x := .tmp 71) (y := .const (.int .i64 0)) (k := 6) (off := 0) (n := (v + 1)) (c := 0) (z := 2) (kd := .i64) (j := 0) (by kernel_rfl) (by kernel_rfl) (by kernel_rfl) (by kernel_rfl) (by kernel_rfl) (by omega) (by omega)) <|
          .p (does_load (t := 29) (x := .tmp 72) (k := 6) (off := 0) (b := ⟨((h.take (v + 1)).flatMap ptc), 29, true, 2⟩) (v := .agg #[.int .i64 (((h.take (v + 1)).getD 0 (0, 0)).1), .int .i64 (((h.take (v + 1)).getD 0 (0, 0)).2)]) (by kernel_rfl) (by kernel_rfl) (by kernel_rfl) (ldV_pair (j := 0) (by kernel_rfl) (by kernel_rfl) (by omega) (by omega))) <|
          .p (does_e true (h8)) <| .a 7 8 <| .nil _ _) ?_
        refine aw_tr 65526 ?_
        refine aw_p 131053 (
          .a 2 8 <| .nil _ _) ?_
        refine aw_w [(2, .slice (some ⟨6, 0, none⟩) h.length 0)] [(0, ⟨(ps.flatMap ptc), 29, false, 2⟩), (6, ⟨(h.flatMap ptc), 29, true, 2⟩)] ?_ (by rw [← hn]; kernel_rfl) (by rw [Sp.take_full hn]; kernel_rfl) (hc := (by simp [closedB, valsB, valB, List.all_eq_true, List.mem_flatMap, List.mem_range, List.mem_map, i64v, ptc, flat1]; try (intros; simp [valsB, valB, flat1]); try decide))
        refine aw_r [(1, 6)] [(2, .slice (some ⟨6, 0, none⟩) h.length 0)] [(0, ⟨(ps.flatMap ptc), 29, false, 2⟩), (6, ⟨(h.flatMap ptc), 29, true, 2⟩)] [(2, .slice (some ⟨1, 0, none⟩) h.length 0)] [(0, ⟨(ps.flatMap ptc), 29, false, 2⟩), (1, ⟨(h.flatMap ptc), 29, true, 2⟩)] ?_ ⟨rfl, (.slice _ _ _ _ _ rfl), trivial⟩ ⟨rfl, ⟨rfl, rfl, rfl, (.flats (flats_pair _))⟩, rfl, ⟨rfl, rfl, rfl, (.flats (flats_pair _))⟩, trivial⟩
        refine aw_rt ?_
        refine then_ret ?_
        refine block_ret ?_
        refine then_ret ?_
        refine block_ret ?_
        exact en_ret [.slice (some ⟨1, 0, none⟩) h.length 0] (by kernel_rfl)
      · have hn := Sp.ring_on hi hxy (by have q := h8; rw [Sp.take_0] at q; exact q)
        refine aw_d 32763 (
          .a 2 8 <| .p (does_indexSlice (t := 24) (x := .tmp 71) (y := .const (.int .i64 0)) (k := 6) (off := 0) (n := (v + 1)) (c := 0) (z := 2) (kd := .i64) (j := 0) (by kernel_rfl) (by kernel_rfl) (by kernel_rfl) (by kernel_rfl) (by kernel_rfl) (by omega) (by omega)) <|
          .p (does_load (t := 29) (x := .tmp 72) (k := 6) (off := 0) (b := ⟨((h.take (v + 1)).flatMap ptc), 29, true, 2⟩) (v := .agg #[.int .i64 (((h.take (v + 1)).getD 0 (0, 0)).1), .int .i64 (((h.take (v + 1)).getD 0 (0, 0)).2)]) (by kernel_rfl) (by kernel_rfl) (by kernel_rfl) (ldV_pair (j := 0) (by kernel_rfl) (by kernel_rfl) (by omega) (by omega))) <|
          .p (does_e false (h8)) <| .a 5 8 <| .p (does_b false ((show (decide (((v + 1 : Nat) : Int) > ((pts.length : Nat) : Int))) = false from decide_eq_false (by omega)))) <| .a 1 8 <| .nil _ _) ?_
        refine aw_fl 65527 ?_
        refine aw_sk ?_
        refine then_normal ?_
        refine aw_p1 (
          .a 3 8 <|
          .p (does_apy 9 29 2 16 6 (v + 1) 8 1 ⟨((h.take (v + 1)).flatMap ptc), 29, true, 2⟩ ⟨[.int .i64 x, .int .i64 y], 29, true, 2⟩ ((h.take (v + 1 + 1)).flatMap ptc) (by kernel_rfl) (by kernel_rfl) (by kernel_rfl) (by kernel_rfl) (by kernel_rfl) (by show ((h.take (v + 1)).flatMap ptc).length = _; rw [pairs_length, List.length_take]; omega) (by omega) (by omega) (Sp.next_take hn hxy rfl)) <|
          .a 1 10 <| .nil _ _) ?_
        refine block_normal ?_
        refine then_normal ?_
        refine al_r [(6, 9)] [(2, .slice none 0 0), (3, .slice (some ⟨4, 0, none⟩) pts.length 0), (6, .pointer (some ⟨5, 0, none⟩)), (7, .slice (some ⟨9, 0, none⟩) ((v + 1) + 1) 0)] [(0, ⟨(ps.flatMap ptc), 29, false, 2⟩), (4, ⟨(pts.flatMap ptc), 29, true, 2⟩), (5, ⟨[.int .i64 x, .int .i64 y], 29, true, 2⟩), (9, ⟨((h.take ((v + 1) + 1)).flatMap ptc), 29, true, 2⟩)] [(2, .slice none 0 0), (3, .slice (some ⟨4, 0, none⟩) pts.length 0), (6, .pointer (some ⟨5, 0, none⟩)), (7, .slice (some ⟨6, 0, none⟩) ((v + 1) + 1) 0)] [(0, ⟨(ps.flatMap ptc), 29, false, 2⟩), (4, ⟨(pts.flatMap ptc), 29, true, 2⟩), (5, ⟨[.int .i64 x, .int .i64 y], 29, true, 2⟩), (6, ⟨((h.take ((v + 1) + 1)).flatMap ptc), 29, true, 2⟩)] ?_ ⟨rfl, (.flatB (by kernel_rfl)), rfl, (.slice _ _ _ _ _ rfl), rfl, (.ptr _ _ rfl), rfl, (.slice _ _ _ _ _ rfl), trivial⟩ ⟨rfl, ⟨rfl, rfl, rfl, (.flats (flats_pair _))⟩, rfl, ⟨rfl, rfl, rfl, (.flats (flats_pair _))⟩, rfl, ⟨rfl, rfl, rfl, (.flats (by kernel_rfl))⟩, rfl, ⟨rfl, rfl, rfl, (.flats (flats_pair _))⟩, trivial⟩
        exact ih2 ((v + 1), x, y) (show ((v + 1) + 1 ≤ h.length) ∧ ((x, y) = h.getD (v + 1) (0, 0)) ∧ ((-1048576 ≤ x ∧ x ≤ 1048576) ∧ (-1048576 ≤ y ∧ y ≤ 1048576)) from ⟨by omega, by (rw [hxy, Nat.mod_eq_of_lt hn]), by exact bx⟩) (show h.length - (v + 1) < h.length - v from by omega)

theorem rhull_ro (ps h : List (Int × Int)) (hh : Sp.hullF (ps.map Sp.lmP) = h) (h1 : 1 ≤ ps.length) (hz : ps.length ≤ 8796093021952) : AC Try.prog 38 1 [.slice (some ⟨0, 0, none⟩) ps.length 0] [(0, ⟨(ps.flatMap ptc), 29, false, 2⟩)] (.slice (some ⟨1, 0, none⟩) h.length 0) [(1, ⟨(h.flatMap ptc), 29, true, 2⟩)] := rhullw ps _ h rfl hh h1 hz

end Go.Proofs.Ytadifmimefmcnaa.Am
