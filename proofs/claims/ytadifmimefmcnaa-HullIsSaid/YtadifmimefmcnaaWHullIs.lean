/-
  The walk of the law HullIs.
-/
import Derived.Test.YtadifmimefmcnaaProg
import Derived.Test.YtadifmimefmcnaaAm16
import Derived.Test.YtadifmimefmcnaaWHullIs0
namespace Go.Proofs.Ytadifmimefmcnaa.Am
open Go Go.Proofs
set_option maxRecDepth 100000
set_option maxHeartbeats 4000000
set_option linter.unusedVariables false
set_option linter.unusedSimpArgs false

theorem hullIs_some (xs : List Int) (ps h : List (Int × Int)) (hl : 1 ≤ ps.length ∧ ps.length ≤ 15) (hf : Sp.Few 40 ps) (hh : Sp.hullF ps = h) (hm : AC Try.prog 31 1 [.slice (some ⟨0, 0, none⟩) xs.length 0] [(0, ⟨(xs.map i64v), 3, false, 1⟩)] (.slice (some ⟨1, 0, none⟩) ps.length 0) [(1, ⟨(ps.flatMap ptc), 29, true, 2⟩)]) (x dx dy : Int) (hx : AC Try.prog 32 0 [.int .i64 x] [] (.agg #[.int .i64 dx, .int .i64 dy]) []) (bdx : -40 ≤ dx) (cdx : dx ≤ 40) (bdy : -40 ≤ dy) (cdy : dy ≤ 40) :
    AC Try.prog 8 1 ([.slice (some ⟨0, 0, none⟩) xs.length 0, .int .i64 x]) [(0, ⟨(xs.map i64v), 3, false, 1⟩)] (.bool true) [] := by
  have hsub : ∀ q ∈ h, q ∈ ps := (fun q hq => Sp.hull_sub (hh ▸ hq)); have hhl := hh ▸ Sp.hull_len hl.1; have hhas : ∀ p ∈ ps, Sp.hasH h p.1 p.2 = true := (fun p hp => hh ▸ Sp.hull_has hp); have hid : Sp.hullF h = h := (by rw [← hh]; exact Sp.hull_idem ps); have hf4 : Sp.Few 40 h := Sp.few_sub (by decide) hf hsub; have hfh : Sp.Few 1048576 h := (fun i => (by have := hf4 i; omega)); have hlm : ps.map Sp.lmP = ps := Sp.lim_few (by decide) hf; have hlh : h.map Sp.lmP = h := Sp.lim_few (by decide) hf4
  refine ac_in Try.func8 (fun w0 W pin => ?_)
  refine aw_p 3 (
    .a 1 1 <| .nil _ _) ?_
  refine aw_sq 6 7 ?_
  refine aw_p 13 (
    .p (does_c (hullBegun_ok)) <| .a 1 1 <| .nil _ _) ?_
  refine aw_fl 27 ?_
  refine aw_sk ?_
  refine then_normal ?_
  refine aw_p 15 (
    .a 1 1 <|
    .p (does_callB (x := .func 31) (ars := #[.tmp 13]) (ats := #[22]) (g := 31) (vs := [.slice (some ⟨0, 0, none⟩) xs.length 0]) (m := 1) (r := 1) (firsts := #[]) (caps := #[]) (args0 := [.slice (some ⟨0, 0, none⟩) xs.length 0]) (pre0 := [(0, ⟨(xs.map i64v), 3, false, 1⟩)]) (post0 := [(1, ⟨(ps.flatMap ptc), 29, true, 2⟩)]) (pre := [(0, ⟨(xs.map i64v), 3, false, 1⟩)]) (post := [(1, ⟨(ps.flatMap ptc), 29, true, 2⟩)]) (v0 := .slice (some ⟨1, 0, none⟩) ps.length 0) (v := .slice (some ⟨1, 0, none⟩) ps.length 0) [0, 1] (by kernel_rfl) (by kernel_rfl) (by kernel_rfl) (by kernel_rfl) (hm) (.cons (.slice _ _ _ _ _ (by decide)) .nil) ⟨rfl, ⟨rfl, rfl, rfl, (.flats (flats_map (fun _ => rfl) _))⟩, trivial⟩ (by kernel_rfl) (by kernel_rfl) (by kernel_rfl) ⟨rfl, ⟨rfl, rfl, rfl, (.flats (flats_pair _))⟩, trivial⟩ (.slice _ _ _ _ _ (by decide))) <|
    .a 1 2 <| .nil _ _) ?_
  refine aw_p 31 (
    .a 1 2 <|
    .p (does_callB (x := .func 36) (ars := #[.tmp 15]) (ats := #[24]) (g := 36) (vs := [.slice (some ⟨1, 0, none⟩) ps.length 0]) (m := 1) (r := 1) (firsts := #[]) (caps := #[]) (args0 := [.slice (some ⟨0, 0, none⟩) ps.length 0]) (pre0 := [(0, ⟨(ps.flatMap ptc), 29, true, 2⟩)]) (post0 := [(0, ⟨(ps.flatMap ptc), 29, true, 2⟩), (1, ⟨(h.flatMap ptc), 29, true, 2⟩)]) (pre := [(1, ⟨(ps.flatMap ptc), 29, true, 2⟩)]) (post := [(1, ⟨(ps.flatMap ptc), 29, true, 2⟩), (2, ⟨(h.flatMap ptc), 29, true, 2⟩)]) (v0 := .slice (some ⟨1, 0, none⟩) h.length 0) (v := .slice (some ⟨2, 0, none⟩) h.length 0) [1, 2] (by kernel_rfl) (by kernel_rfl) (by kernel_rfl) (by kernel_rfl) (hull_own ps h (by rw [hlm]; exact hh) (by omega) (by omega)) (.cons (.slice _ _ _ _ _ (by decide)) .nil) ⟨rfl, ⟨rfl, rfl, rfl, (.flats (flats_pair _))⟩, trivial⟩ (by kernel_rfl) (by kernel_rfl) (by kernel_rfl) ⟨rfl, ⟨rfl, rfl, rfl, (.flats (flats_pair _))⟩, rfl, ⟨rfl, rfl, rfl, (.flats (flats_pair _))⟩, trivial⟩ (.slice _ _ _ _ _ (by decide))) <|
    .a 1 3 <| .nil _ _) ?_
  refine aw_sq 62 63 ?_
  refine aw_p 125 (
    .a 3 3 <| .nil _ _) ?_
  refine aw_bl 0 251 ?_
  refine aw_lp 503 ?_
  refine al_w [(1, .int .i64 x), (4, .bool false), (5, .slice (some ⟨1, 0, none⟩) ps.length 0), (6, .slice (some ⟨2, 0, none⟩) h.length 0), (17, .slice (some ⟨1, 0, none⟩) ps.length 0), (18, .int .i64 ((ps.length : Nat) : Int)), (19, .int .i64 ((0 : Nat) : Int))] [(0, ⟨(xs.map i64v), 3, false, 1⟩), (1, ⟨(ps.flatMap ptc), 29, true, 2⟩), (2, ⟨(h.flatMap ptc), 29, true, 2⟩)] ?_ (hc := (by simp [closedB, valsB, valB, List.all_eq_true, List.mem_flatMap, List.mem_range, List.mem_map, i64v, ptc, i64v, flat1]; try (intros; simp [valsB, valB, flat1]); try decide))
  refine al_ind (fun i : Nat => (fun (i : Nat) => mkSt 1 [(1, .int .i64 x), (4, .bool false), (5, .slice (some ⟨1, 0, none⟩) ps.length 0), (6, .slice (some ⟨2, 0, none⟩) h.length 0), (17, .slice (some ⟨1, 0, none⟩) ps.length 0), (18, .int .i64 ((ps.length : Nat) : Int)), (19, .int .i64 ((i : Nat) : Int))] [(0, ⟨(xs.map i64v), 3, false, 1⟩), (1, ⟨(ps.flatMap ptc), 29, true, 2⟩), (2, ⟨(h.flatMap ptc), 29, true, 2⟩)]) i) (fun i : Nat => (fun (i : Nat) => (i ≤ ps.length)) i) (fun i : Nat => (fun (i : Nat) => ps.length - i) i) (fun i hi1 ih1 => ?_) 0 (show (0 ≤ ps.length) from by omega)
  obtain ⟨i, hv1⟩ : ∃ z, z = i := ⟨i, rfl⟩; subst hv1
  have hi1' : (i ≤ ps.length) := hi1
  have hi : i ≤ ps.length := hi1'
  show AL _ _ _ (mkSt 1 [(1, .int .i64 x), (4, .bool false), (5, .slice (some ⟨1, 0, none⟩) ps.length 0), (6, .slice (some ⟨2, 0, none⟩) h.length 0), (17, .slice (some ⟨1, 0, none⟩) ps.length 0), (18, .int .i64 ((ps.length : Nat) : Int)), (19, .int .i64 ((i : Nat) : Int))] [(0, ⟨(xs.map i64v), 3, false, 1⟩), (1, ⟨(ps.flatMap ptc), 29, true, 2⟩), (2, ⟨(h.flatMap ptc), 29, true, 2⟩)]) _
  refine al_round ?_
  refine aw_p 1007 (
    .a 1 3 <| .nil _ _) ?_
  refine aw_sq 2014 2015 ?_
  refine aw_cd 4028 4029 (decide (((i : Nat) : Int) < ((ps.length : Nat) : Int))) (fun h1 => ?_) (fun h1 => ?_)
  · have h1p : ((((i : Nat) : Int) < ((ps.length : Nat) : Int))) := by first | (simpa using h1) | (have h1q := h1; simp at h1q; omega) | (have h1q := bx1 h1; simp at h1q; omega)
    have hil : i < ps.length := by omega
    have fi := hf i
    refine aw_sk ?_
    refine then_normal ?_
    refine aw_sq 4030 4031 ?_
    refine aw_bl 1 8061 ?_
    refine aw_p 16123 (
      .p (does_indexSlice (t := 24) (x := .tmp 17) (y := .tmp 19) (k := 1) (off := 0) (n := ps.length) (c := 0) (z := 2) (kd := .i64) (j := ((i : Nat) : Int)) (by kernel_rfl) (by kernel_rfl) (by kernel_rfl) (by kernel_rfl) (by kernel_rfl) (by omega) (by omega)) <|
      .p (does_load (t := 29) (x := .tmp 21) (k := 1) (off := (0 + (((i : Nat) : Int)).toNat * 2)) (b := ⟨(ps.flatMap ptc), 29, true, 2⟩) (v := .agg #[.int .i64 ((ps.getD i (0, 0)).1), .int .i64 ((ps.getD i (0, 0)).2)]) (by kernel_rfl) (by kernel_rfl) (by kernel_rfl) (ldV_pair (j := i) (by kernel_rfl) (by kernel_rfl) (by omega) (by omega))) <|
      .a 2 3 <| .nil _ _) ?_
    refine aw_p 32247 (
      .a 2 4 <|
      .p (does_callB (x := .func 34) (ars := #[.tmp 23, .tmp 24]) (ats := #[24, 29]) (g := 34) (vs := [.slice (some ⟨1, 0, none⟩) ps.length 0, .agg #[.int .i64 ((ps.getD i (0, 0)).1), .int .i64 ((ps.getD i (0, 0)).2)]]) (m := 1) (r := 0) (firsts := #[]) (caps := #[]) (args0 := [.slice (some ⟨0, 0, none⟩) ps.length 0, .agg #[.int .i64 ((ps.getD i (0, 0)).1), .int .i64 ((ps.getD i (0, 0)).2)]]) (pre0 := [(0, ⟨(ps.flatMap ptc), 29, true, 2⟩)]) (post0 := [(0, ⟨(ps.flatMap ptc), 29, true, 2⟩)]) (pre := [(1, ⟨(ps.flatMap ptc), 29, true, 2⟩)]) (post := [(1, ⟨(ps.flatMap ptc), 29, true, 2⟩)]) (v0 := .bool (Sp.hasH h ((ps.getD i (0, 0)).1) ((ps.getD i (0, 0)).2))) (v := .bool (Sp.hasH h ((ps.getD i (0, 0)).1) ((ps.getD i (0, 0)).2))) [1] (by kernel_rfl) (by kernel_rfl) (by kernel_rfl) (by kernel_rfl) ((by have q := hullhas_own ps h (by rw [hlm]; exact hh) (by omega) (by omega) ((ps.getD i (0, 0)).1) ((ps.getD i (0, 0)).2) (by omega) hfh; rw [Sp.lim_id (n := (ps.getD i (0, 0)).1) (by omega) (by omega), Sp.lim_id (n := (ps.getD i (0, 0)).2) (by omega) (by omega)] at q; exact q)) (.cons (.slice _ _ _ _ _ (by decide)) (.cons (.flatB (by kernel_rfl)) .nil)) ⟨rfl, ⟨rfl, rfl, rfl, (.flats (flats_pair _))⟩, trivial⟩ (by kernel_rfl) (by kernel_rfl) (by kernel_rfl) ⟨rfl, ⟨rfl, rfl, rfl, (.flats (flats_pair _))⟩, trivial⟩ (.flatB (by kernel_rfl))) <|
      .p (does_b false ((show (!(Sp.hasH h ((ps.getD i (0, 0)).1) ((ps.getD i (0, 0)).2))) = false from (by rw [hhas _ (Sp.mem_getD hil)]; rfl)))) <| .a 3 4 <|
      .p (does_callB (x := .func 34) (ars := #[.tmp 28, .tmp 29]) (ats := #[24, 29]) (g := 34) (vs := [.slice (some ⟨2, 0, none⟩) h.length 0, .agg #[.int .i64 ((ps.getD i (0, 0)).1), .int .i64 ((ps.getD i (0, 0)).2)]]) (m := 1) (r := 0) (firsts := #[]) (caps := #[]) (args0 := [.slice (some ⟨0, 0, none⟩) h.length 0, .agg #[.int .i64 ((ps.getD i (0, 0)).1), .int .i64 ((ps.getD i (0, 0)).2)]]) (pre0 := [(0, ⟨(h.flatMap ptc), 29, true, 2⟩)]) (post0 := [(0, ⟨(h.flatMap ptc), 29, true, 2⟩)]) (pre := [(2, ⟨(h.flatMap ptc), 29, true, 2⟩)]) (post := [(2, ⟨(h.flatMap ptc), 29, true, 2⟩)]) (v0 := .bool (Sp.hasH h ((ps.getD i (0, 0)).1) ((ps.getD i (0, 0)).2))) (v := .bool (Sp.hasH h ((ps.getD i (0, 0)).1) ((ps.getD i (0, 0)).2))) [2] (by kernel_rfl) (by kernel_rfl) (by kernel_rfl) (by kernel_rfl) ((by have q := hullhas_own h h (by rw [hlh]; exact hid) (by omega) (by omega) ((ps.getD i (0, 0)).1) ((ps.getD i (0, 0)).2) (by omega) hfh; rw [Sp.lim_id (n := (ps.getD i (0, 0)).1) (by omega) (by omega), Sp.lim_id (n := (ps.getD i (0, 0)).2) (by omega) (by omega)] at q; exact q)) (.cons (.slice _ _ _ _ _ (by decide)) (.cons (.flatB (by kernel_rfl)) .nil)) ⟨rfl, ⟨rfl, rfl, rfl, (.flats (flats_pair _))⟩, trivial⟩ (by kernel_rfl) (by kernel_rfl) (by kernel_rfl) ⟨rfl, ⟨rfl, rfl, rfl, (.flats (flats_pair _))⟩, trivial⟩ (.flatB (by kernel_rfl))) <|
      .p (does_b false ((show (!(Sp.hasH h ((ps.getD i (0, 0)).1) ((ps.getD i (0, 0)).2))) = false from (by rw [hhas _ (Sp.mem_getD hil)]; rfl)))) <| .a 1 4 <| .nil _ _) ?_
    refine aw_fl 64495 ?_
    refine aw_sk ?_
    refine block_normal ?_
    refine then_normal ?_
    refine aw_p1 (
      .p (does_i (((i : Nat) : Int) + 1) (wrap_i64 (by omega) (by omega)) .i64) <| .a 1 4 <| .nil _ _) ?_
    refine then_normal ?_
    refine al_w [(1, .int .i64 x), (4, .bool false), (5, .slice (some ⟨1, 0, none⟩) ps.length 0), (6, .slice (some ⟨2, 0, none⟩) h.length 0), (17, .slice (some ⟨1, 0, none⟩) ps.length 0), (18, .int .i64 ((ps.length : Nat) : Int)), (19, .int .i64 (((i + 1) : Nat) : Int))] [(0, ⟨(xs.map i64v), 3, false, 1⟩), (1, ⟨(ps.flatMap ptc), 29, true, 2⟩), (2, ⟨(h.flatMap ptc), 29, true, 2⟩)] ?_ (hc := (by simp [closedB, valsB, valB, List.all_eq_true, List.mem_flatMap, List.mem_range, List.mem_map, i64v, ptc, i64v, flat1]; try (intros; simp [valsB, valB, flat1]); try decide))
    exact ih1 (i + 1) (show ((i + 1) ≤ ps.length) from by omega) (show ps.length - (i + 1) < ps.length - i from by omega)
  · have h1p : ¬ ((((i : Nat) : Int) < ((ps.length : Nat) : Int))) := by first | (simpa using h1) | (have h1q := h1; simp at h1q; omega) | (have h1q := bx2 h1; simp at h1q; omega)
    refine aw_ex 0 ?_
    refine then_exit ?_
    refine then_exit ?_
    refine block_exit ?_
    refine then_normal ?_
    refine aw_sq 126 127 ?_
    refine aw_p 253 (
      .a 3 3 <| .nil _ _) ?_
    refine aw_bl 2 507 ?_
    refine aw_lp 1015 ?_
    refine al_w [(1, .int .i64 x), (4, .bool false), (5, .slice (some ⟨1, 0, none⟩) ps.length 0), (6, .slice (some ⟨2, 0, none⟩) h.length 0), (34, .slice (some ⟨2, 0, none⟩) h.length 0), (35, .int .i64 ((h.length : Nat) : Int)), (36, .int .i64 ((0 : Nat) : Int))] [(0, ⟨(xs.map i64v), 3, false, 1⟩), (1, ⟨(ps.flatMap ptc), 29, true, 2⟩), (2, ⟨(h.flatMap ptc), 29, true, 2⟩)] ?_ (hc := (by simp [closedB, valsB, valB, List.all_eq_true, List.mem_flatMap, List.mem_range, List.mem_map, i64v, ptc, i64v, flat1]; try (intros; simp [valsB, valB, flat1]); try decide))
    refine al_ind (fun i : Nat => (fun (i : Nat) => mkSt 1 [(1, .int .i64 x), (4, .bool false), (5, .slice (some ⟨1, 0, none⟩) ps.length 0), (6, .slice (some ⟨2, 0, none⟩) h.length 0), (34, .slice (some ⟨2, 0, none⟩) h.length 0), (35, .int .i64 ((h.length : Nat) : Int)), (36, .int .i64 ((i : Nat) : Int))] [(0, ⟨(xs.map i64v), 3, false, 1⟩), (1, ⟨(ps.flatMap ptc), 29, true, 2⟩), (2, ⟨(h.flatMap ptc), 29, true, 2⟩)]) i) (fun i : Nat => (fun (i : Nat) => (i ≤ h.length)) i) (fun i : Nat => (fun (i : Nat) => h.length - i) i) (fun i hi2 ih2 => ?_) 0 (show (0 ≤ h.length) from by omega)
    obtain ⟨i, hv2⟩ : ∃ z, z = i := ⟨i, rfl⟩; subst hv2
    have hi2' : (i ≤ h.length) := hi2
    have hi : i ≤ h.length := hi2'
    show AL _ _ _ (mkSt 1 [(1, .int .i64 x), (4, .bool false), (5, .slice (some ⟨1, 0, none⟩) ps.length 0), (6, .slice (some ⟨2, 0, none⟩) h.length 0), (34, .slice (some ⟨2, 0, none⟩) h.length 0), (35, .int .i64 ((h.length : Nat) : Int)), (36, .int .i64 ((i : Nat) : Int))] [(0, ⟨(xs.map i64v), 3, false, 1⟩), (1, ⟨(ps.flatMap ptc), 29, true, 2⟩), (2, ⟨(h.flatMap ptc), 29, true, 2⟩)]) _
    refine al_round ?_
    refine aw_p 2031 (
      .a 1 3 <| .nil _ _) ?_
    refine aw_sq 4062 4063 ?_
    refine aw_cd 8124 8125 (decide (((i : Nat) : Int) < ((h.length : Nat) : Int))) (fun h2 => ?_) (fun h2 => ?_)
    · have h2p : ((((i : Nat) : Int) < ((h.length : Nat) : Int))) := by first | (simpa using h2) | (have h2q := h2; simp at h2q; omega) | (have h2q := bx1 h2; simp at h2q; omega)
      have hil : i < h.length := by omega
      obtain ⟨j, hj⟩ : ∃ j, (i + 1) % h.length = j := ⟨_, rfl⟩; obtain ⟨j2, hj2⟩ : ∃ j, (i + 2) % h.length = j := ⟨_, rfl⟩
      have hjl : j < h.length := hj ▸ Nat.mod_lt _ (by omega)
      have hjl2 : j2 < h.length := hj2 ▸ Nat.mod_lt _ (by omega)
      have fi := hfh i; have fj := hfh j; have fk := hfh j2
      refine aw_sk ?_
      refine then_normal ?_
      refine aw_sq 8126 8127 ?_
      refine aw_bl 3 16253 ?_
      refine aw_p 32507 (
        .a 1 3 <| .p (does_indexSlice (t := 24) (x := .tmp 34) (y := .tmp 36) (k := 2) (off := 0) (n := h.length) (c := 0) (z := 2) (kd := .i64) (j := ((i : Nat) : Int)) (by kernel_rfl) (by kernel_rfl) (by kernel_rfl) (by kernel_rfl) (by kernel_rfl) (by omega) (by omega)) <|
        .p (does_load (t := 29) (x := .tmp 39) (k := 2) (off := (0 + (((i : Nat) : Int)).toNat * 2)) (b := ⟨(h.flatMap ptc), 29, true, 2⟩) (v := .agg #[.int .i64 ((h.getD i (0, 0)).1), .int .i64 ((h.getD i (0, 0)).2)]) (by kernel_rfl) (by kernel_rfl) (by kernel_rfl) (ldV_pair (j := i) (by kernel_rfl) (by kernel_rfl) (by omega) (by omega))) <|
        .a 3 3 <| .nil _ _) ?_
      rcases Bool.eq_false_or_eq_true (decide (((h.length : Nat) : Int) > 2)) with h3 | h3
      · have h3p : ((((h.length : Nat) : Int) > 2)) := by first | (simpa using h3) | (have h3q := h3; simp at h3q; omega) | (have h3q := bx1 h3; simp at h3q; omega)
        refine aw_d 65015 (
          .a 2 4 <|
          .p (does_callB (x := .func 21) (ars := #[.tmp 41, .tmp 42]) (ats := #[24, 29]) (g := 21) (vs := [.slice (some ⟨1, 0, none⟩) ps.length 0, .agg #[.int .i64 ((h.getD i (0, 0)).1), .int .i64 ((h.getD i (0, 0)).2)]]) (m := 1) (r := 0) (firsts := #[]) (caps := #[]) (args0 := [.slice (some ⟨0, 0, none⟩) ps.length 0, .agg #[.int .i64 ((h.getD i (0, 0)).1), .int .i64 ((h.getD i (0, 0)).2)]]) (pre0 := [(0, ⟨(ps.flatMap ptc), 29, true, 2⟩)]) (post0 := [(0, ⟨(ps.flatMap ptc), 29, true, 2⟩)]) (pre := [(1, ⟨(ps.flatMap ptc), 29, true, 2⟩)]) (post := [(1, ⟨(ps.flatMap ptc), 29, true, 2⟩)]) (v0 := .bool (ps.any (Sp.eqTo ((h.getD i (0, 0)).1, (h.getD i (0, 0)).2)))) (v := .bool (ps.any (Sp.eqTo ((h.getD i (0, 0)).1, (h.getD i (0, 0)).2)))) [1] (by kernel_rfl) (by kernel_rfl) (by kernel_rfl) (by kernel_rfl) (contains_ok ps (by omega) (by omega) ((h.getD i (0, 0)).1) ((h.getD i (0, 0)).2)) (.cons (.slice _ _ _ _ _ (by decide)) (.cons (.flatB (by kernel_rfl)) .nil)) ⟨rfl, ⟨rfl, rfl, rfl, (.flats (flats_pair _))⟩, trivial⟩ (by kernel_rfl) (by kernel_rfl) (by kernel_rfl) ⟨rfl, ⟨rfl, rfl, rfl, (.flats (flats_pair _))⟩, trivial⟩ (.flatB (by kernel_rfl))) <|
          .p (does_b false ((show (!(ps.any (Sp.eqTo ((h.getD i (0, 0)).1, (h.getD i (0, 0)).2)))) = false from (by rw [Sp.any_in hil hsub]; rfl)))) <| .a 3 4 <| .p (does_b true (h3)) <| .a 4 4 <| .p (does_i (((i : Nat) : Int) + 1) (wrap_i64 (by omega) (by omega)) .i64) <| .a 2 4 <|
          .p (does_int (n' := ((j : Nat) : Int)) (does_rem (t := 3) (t2 := 3) (x := .tmp 53) (y := .tmp 55) (k := .i64) (a := (((i : Nat) : Int) + 1)) (b := ((h.length : Nat) : Int)) (by kernel_rfl) (by kernel_rfl) (by kernel_rfl) (by omega)) ((show (Int.tmod (((i : Nat) : Int) + 1) ((h.length : Nat) : Int)) = ((j : Nat) : Int) from (by rw [← hj]; exact rfl)))) <|
          .p (does_indexSlice (t := 24) (x := .tmp 51) (y := .tmp 56) (k := 2) (off := 0) (n := h.length) (c := 0) (z := 2) (kd := .i64) (j := ((j : Nat) : Int)) (by kernel_rfl) (by kernel_rfl) (by kernel_rfl) (by kernel_rfl) (by kernel_rfl) (by omega) (by omega)) <|
          .p (does_load (t := 29) (x := .tmp 57) (k := 2) (off := (0 + (((j : Nat) : Int)).toNat * 2)) (b := ⟨(h.flatMap ptc), 29, true, 2⟩) (v := .agg #[.int .i64 ((h.getD j (0, 0)).1), .int .i64 ((h.getD j (0, 0)).2)]) (by kernel_rfl) (by kernel_rfl) (by kernel_rfl) (ldV_pair (j := j) (by kernel_rfl) (by kernel_rfl) (by omega) (by omega))) <|
          .a 2 4 <| .p (does_i (((i : Nat) : Int) + 2) (wrap_i64 (by omega) (by omega)) .i64) <| .a 2 4 <|
          .p (does_int (n' := ((j2 : Nat) : Int)) (does_rem (t := 3) (t2 := 3) (x := .tmp 61) (y := .tmp 63) (k := .i64) (a := (((i : Nat) : Int) + 2)) (b := ((h.length : Nat) : Int)) (by kernel_rfl) (by kernel_rfl) (by kernel_rfl) (by omega)) ((show (Int.tmod (((i : Nat) : Int) + 2) ((h.length : Nat) : Int)) = ((j2 : Nat) : Int) from (by rw [← hj2]; exact rfl)))) <|
          .p (does_indexSlice (t := 24) (x := .tmp 59) (y := .tmp 64) (k := 2) (off := 0) (n := h.length) (c := 0) (z := 2) (kd := .i64) (j := ((j2 : Nat) : Int)) (by kernel_rfl) (by kernel_rfl) (by kernel_rfl) (by kernel_rfl) (by kernel_rfl) (by omega) (by omega)) <|
          .p (does_load (t := 29) (x := .tmp 65) (k := 2) (off := (0 + (((j2 : Nat) : Int)).toNat * 2)) (b := ⟨(h.flatMap ptc), 29, true, 2⟩) (v := .agg #[.int .i64 ((h.getD j2 (0, 0)).1), .int .i64 ((h.getD j2 (0, 0)).2)]) (by kernel_rfl) (by kernel_rfl) (by kernel_rfl) (ldV_pair (j := j2) (by kernel_rfl) (by kernel_rfl) (by omega) (by omega))) <|
          .p (does_c (turn_in ((h.getD i (0, 0)).1) ((h.getD i (0, 0)).2) ((h.getD j (0, 0)).1) ((h.getD j (0, 0)).2) ((h.getD j2 (0, 0)).1) ((h.getD j2 (0, 0)).2) (by omega) (by omega) (by omega) (by omega) (by omega) (by omega) (by omega) (by omega) (by omega) (by omega) (by omega) (by omega))) <|
          .p (does_b false ((show ((Sp.cmp (Sp.crs ((h.getD i (0, 0)).1) ((h.getD i (0, 0)).2) ((h.getD j (0, 0)).1) ((h.getD j (0, 0)).2) ((h.getD j2 (0, 0)).1) ((h.getD j2 (0, 0)).2)) 0) != 1) = false from (Sp.tn_one hj hj2 (by have := Sp.hull_turn (ps := ps) (i := i) (by rw [hh]; omega) (by rw [hh]; exact hil); rw [hh] at this; exact this))))) <|
          .a 2 4 <| .nil _ _) ?_
        refine aw_fl 130031 ?_
        refine aw_sk ?_
        refine block_normal ?_
        refine then_normal ?_
        refine aw_p1 (
          .p (does_i (((i : Nat) : Int) + 1) (wrap_i64 (by omega) (by omega)) .i64) <| .a 1 4 <| .nil _ _) ?_
        refine then_normal ?_
        refine al_w [(1, .int .i64 x), (4, .bool false), (5, .slice (some ⟨1, 0, none⟩) ps.length 0), (6, .slice (some ⟨2, 0, none⟩) h.length 0), (34, .slice (some ⟨2, 0, none⟩) h.length 0), (35, .int .i64 ((h.length : Nat) : Int)), (36, .int .i64 (((i + 1) : Nat) : Int))] [(0, ⟨(xs.map i64v), 3, false, 1⟩), (1, ⟨(ps.flatMap ptc), 29, true, 2⟩), (2, ⟨(h.flatMap ptc), 29, true, 2⟩)] ?_ (hc := (by simp [closedB, valsB, valB, List.all_eq_true, List.mem_flatMap, List.mem_range, List.mem_map, i64v, ptc, i64v, flat1]; try (intros; simp [valsB, valB, flat1]); try decide))
        exact ih2 (i + 1) (show ((i + 1) ≤ h.length) from by omega) (show h.length - (i + 1) < h.length - i from by omega)
      · have h3p : ¬ ((((h.length : Nat) : Int) > 2)) := by first | (simpa using h3) | (have h3q := h3; simp at h3q; omega) | (have h3q := bx2 h3; simp at h3q; omega)
        refine aw_d 65015 (
          .a 2 4 <|
          .p (does_callB (x := .func 21) (ars := #[.tmp 41, .tmp 42]) (ats := #[24, 29]) (g := 21) (vs := [.slice (some ⟨1, 0, none⟩) ps.length 0, .agg #[.int .i64 ((h.getD i (0, 0)).1), .int .i64 ((h.getD i (0, 0)).2)]]) (m := 1) (r := 0) (firsts := #[]) (caps := #[]) (args0 := [.slice (some ⟨0, 0, none⟩) ps.length 0, .agg #[.int .i64 ((h.getD i (0, 0)).1), .int .i64 ((h.getD i (0, 0)).2)]]) (pre0 := [(0, ⟨(ps.flatMap ptc), 29, true, 2⟩)]) (post0 := [(0, ⟨(ps.flatMap ptc), 29, true, 2⟩)]) (pre := [(1, ⟨(ps.flatMap ptc), 29, true, 2⟩)]) (post := [(1, ⟨(ps.flatMap ptc), 29, true, 2⟩)]) (v0 := .bool (ps.any (Sp.eqTo ((h.getD i (0, 0)).1, (h.getD i (0, 0)).2)))) (v := .bool (ps.any (Sp.eqTo ((h.getD i (0, 0)).1, (h.getD i (0, 0)).2)))) [1] (by kernel_rfl) (by kernel_rfl) (by kernel_rfl) (by kernel_rfl) (contains_ok ps (by omega) (by omega) ((h.getD i (0, 0)).1) ((h.getD i (0, 0)).2)) (.cons (.slice _ _ _ _ _ (by decide)) (.cons (.flatB (by kernel_rfl)) .nil)) ⟨rfl, ⟨rfl, rfl, rfl, (.flats (flats_pair _))⟩, trivial⟩ (by kernel_rfl) (by kernel_rfl) (by kernel_rfl) ⟨rfl, ⟨rfl, rfl, rfl, (.flats (flats_pair _))⟩, trivial⟩ (.flatB (by kernel_rfl))) <|
          .p (does_b false ((show (!(ps.any (Sp.eqTo ((h.getD i (0, 0)).1, (h.getD i (0, 0)).2)))) = false from (by rw [Sp.any_in hil hsub]; rfl)))) <| .a 3 4 <| .p (does_b false (h3)) <| .a 22 4 <| .nil _ _) ?_
        refine aw_fl 130031 ?_
        refine aw_sk ?_
        refine block_normal ?_
        refine then_normal ?_
        refine aw_p1 (
          .p (does_i (((i : Nat) : Int) + 1) (wrap_i64 (by omega) (by omega)) .i64) <| .a 1 4 <| .nil _ _) ?_
        refine then_normal ?_
        refine al_w [(1, .int .i64 x), (4, .bool false), (5, .slice (some ⟨1, 0, none⟩) ps.length 0), (6, .slice (some ⟨2, 0, none⟩) h.length 0), (34, .slice (some ⟨2, 0, none⟩) h.length 0), (35, .int .i64 ((h.length : Nat) : Int)), (36, .int .i64 (((i + 1) : Nat) : Int))] [(0, ⟨(xs.map i64v), 3, false, 1⟩), (1, ⟨(ps.flatMap ptc), 29, true, 2⟩), (2, ⟨(h.flatMap ptc), 29, true, 2⟩)] ?_ (hc := (by simp [closedB, valsB, valB, List.all_eq_true, List.mem_flatMap, List.mem_range, List.mem_map, i64v, ptc, i64v, flat1]; try (intros; simp [valsB, valB, flat1]); try decide))
        exact ih2 (i + 1) (show ((i + 1) ≤ h.length) from by omega) (show h.length - (i + 1) < h.length - i from by omega)
    · have h2p : ¬ ((((i : Nat) : Int) < ((h.length : Nat) : Int))) := by first | (simpa using h2) | (have h2q := h2; simp at h2q; omega) | (have h2q := bx2 h2; simp at h2q; omega)
      refine aw_ex 2 ?_
      refine then_exit ?_
      refine then_exit ?_
      refine block_exit ?_
      refine then_normal ?_
      refine aw_p 255 (
        .a 2 3 <| .p (does_b false ((show (((h.length : Nat) : Int) == 0) = false from (by rw [beq_eq_false_iff_ne]; omega)))) <| .a 2 3 <| .p (does_b false ((show (((ps.length : Nat) : Int) == 0) = false from (by rw [beq_eq_false_iff_ne]; omega)))) <| .a 3 3 <|
        .p (does_callB (x := .func 36) (ars := #[.tmp 80]) (ats := #[24]) (g := 36) (vs := [.slice (some ⟨2, 0, none⟩) h.length 0]) (m := 1) (r := 1) (firsts := #[]) (caps := #[]) (args0 := [.slice (some ⟨0, 0, none⟩) h.length 0]) (pre0 := [(0, ⟨(h.flatMap ptc), 29, true, 2⟩)]) (post0 := [(0, ⟨(h.flatMap ptc), 29, true, 2⟩), (1, ⟨(h.flatMap ptc), 29, true, 2⟩)]) (pre := [(2, ⟨(h.flatMap ptc), 29, true, 2⟩)]) (post := [(2, ⟨(h.flatMap ptc), 29, true, 2⟩), (3, ⟨(h.flatMap ptc), 29, true, 2⟩)]) (v0 := .slice (some ⟨1, 0, none⟩) h.length 0) (v := .slice (some ⟨3, 0, none⟩) h.length 0) [2, 3] (by kernel_rfl) (by kernel_rfl) (by kernel_rfl) (by kernel_rfl) (hull_own h h (by rw [hlh]; exact hid) (by omega) (by omega)) (.cons (.slice _ _ _ _ _ (by decide)) .nil) ⟨rfl, ⟨rfl, rfl, rfl, (.flats (flats_pair _))⟩, trivial⟩ (by kernel_rfl) (by kernel_rfl) (by kernel_rfl) ⟨rfl, ⟨rfl, rfl, rfl, (.flats (flats_pair _))⟩, rfl, ⟨rfl, rfl, rfl, (.flats (flats_pair _))⟩, trivial⟩ (.slice _ _ _ _ _ (by decide))) <|
        .a 1 4 <|
        .p (does_callB (x := .func 17) (ars := #[.tmp 81, .tmp 82]) (ats := #[24, 24]) (g := 17) (vs := [.slice (some ⟨3, 0, none⟩) h.length 0, .slice (some ⟨2, 0, none⟩) h.length 0]) (m := 2) (r := 0) (firsts := #[]) (caps := #[]) (args0 := [.slice (some ⟨0, 0, none⟩) h.length 0, .slice (some ⟨1, 0, none⟩) h.length 0]) (pre0 := [(0, ⟨(h.flatMap ptc), 29, true, 2⟩), (1, ⟨(h.flatMap ptc), 29, true, 2⟩)]) (post0 := [(0, ⟨(h.flatMap ptc), 29, true, 2⟩), (1, ⟨(h.flatMap ptc), 29, true, 2⟩)]) (pre := [(3, ⟨(h.flatMap ptc), 29, true, 2⟩), (2, ⟨(h.flatMap ptc), 29, true, 2⟩)]) (post := [(3, ⟨(h.flatMap ptc), 29, true, 2⟩), (2, ⟨(h.flatMap ptc), 29, true, 2⟩)]) (v0 := .bool true) (v := .bool true) [3, 2] (by kernel_rfl) (by kernel_rfl) (by kernel_rfl) (by kernel_rfl) (equal_n h h h.length rfl rfl (by omega)) (.cons (.slice _ _ _ _ _ (by decide)) (.cons (.slice _ _ _ _ _ (by decide)) .nil)) ⟨rfl, ⟨rfl, rfl, rfl, (.flats (flats_pair _))⟩, rfl, ⟨rfl, rfl, rfl, (.flats (flats_pair _))⟩, trivial⟩ (by kernel_rfl) (by kernel_rfl) (by kernel_rfl) ⟨rfl, ⟨rfl, rfl, rfl, (.flats (flats_pair _))⟩, rfl, ⟨rfl, rfl, rfl, (.flats (flats_pair _))⟩, trivial⟩ (.flatB (by kernel_rfl))) <|
        .a 3 4 <|
        .p (does_callB (x := .func 37) (ars := #[.tmp 86]) (ats := #[24]) (g := 37) (vs := [.slice (some ⟨2, 0, none⟩) h.length 0]) (m := 1) (r := 0) (firsts := #[]) (caps := #[]) (args0 := [.slice (some ⟨0, 0, none⟩) h.length 0]) (pre0 := [(0, ⟨(h.flatMap ptc), 29, true, 2⟩)]) (post0 := [(0, ⟨(h.flatMap ptc), 29, true, 2⟩)]) (pre := [(2, ⟨(h.flatMap ptc), 29, true, 2⟩)]) (post := [(2, ⟨(h.flatMap ptc), 29, true, 2⟩)]) (v0 := .int .i64 (Sp.farF h 0 0)) (v := .int .i64 (Sp.farF h 0 0)) [2] (by kernel_rfl) (by kernel_rfl) (by kernel_rfl) (by kernel_rfl) (hullfar_own h h (by rw [hlh]; exact hid) (by omega) (by omega) (by omega) hfh) (.cons (.slice _ _ _ _ _ (by decide)) .nil) ⟨rfl, ⟨rfl, rfl, rfl, (.flats (flats_pair _))⟩, trivial⟩ (by kernel_rfl) (by kernel_rfl) (by kernel_rfl) ⟨rfl, ⟨rfl, rfl, rfl, (.flats (flats_pair _))⟩, trivial⟩ (.flatB (by kernel_rfl))) <|
        .a 1 4 <|
        .p (does_callB (x := .func 37) (ars := #[.tmp 88]) (ats := #[24]) (g := 37) (vs := [.slice (some ⟨1, 0, none⟩) ps.length 0]) (m := 1) (r := 0) (firsts := #[]) (caps := #[]) (args0 := [.slice (some ⟨0, 0, none⟩) ps.length 0]) (pre0 := [(0, ⟨(ps.flatMap ptc), 29, true, 2⟩)]) (post0 := [(0, ⟨(ps.flatMap ptc), 29, true, 2⟩)]) (pre := [(1, ⟨(ps.flatMap ptc), 29, true, 2⟩)]) (post := [(1, ⟨(ps.flatMap ptc), 29, true, 2⟩)]) (v0 := .int .i64 (Sp.farF h 0 0)) (v := .int .i64 (Sp.farF h 0 0)) [1] (by kernel_rfl) (by kernel_rfl) (by kernel_rfl) (by kernel_rfl) (hullfar_own ps h (by rw [hlm]; exact hh) (by omega) (by omega) (by omega) hfh) (.cons (.slice _ _ _ _ _ (by decide)) .nil) ⟨rfl, ⟨rfl, rfl, rfl, (.flats (flats_pair _))⟩, trivial⟩ (by kernel_rfl) (by kernel_rfl) (by kernel_rfl) ⟨rfl, ⟨rfl, rfl, rfl, (.flats (flats_pair _))⟩, trivial⟩ (.flatB (by kernel_rfl))) <|
        .p (does_b true ((show ((Sp.farF h 0 0) == (Sp.farF h 0 0)) = true from by simp))) <| .a 4 4 <| .p (does_c (hx)) <|
        .p (does_callB (x := .func 34) (ars := #[.tmp 93, .tmp 95]) (ats := #[24, 29]) (g := 34) (vs := [.slice (some ⟨2, 0, none⟩) h.length 0, .agg #[.int .i64 dx, .int .i64 dy]]) (m := 1) (r := 0) (firsts := #[]) (caps := #[]) (args0 := [.slice (some ⟨0, 0, none⟩) h.length 0, .agg #[.int .i64 dx, .int .i64 dy]]) (pre0 := [(0, ⟨(h.flatMap ptc), 29, true, 2⟩)]) (post0 := [(0, ⟨(h.flatMap ptc), 29, true, 2⟩)]) (pre := [(2, ⟨(h.flatMap ptc), 29, true, 2⟩)]) (post := [(2, ⟨(h.flatMap ptc), 29, true, 2⟩)]) (v0 := .bool (Sp.hasH h dx dy)) (v := .bool (Sp.hasH h dx dy)) [2] (by kernel_rfl) (by kernel_rfl) (by kernel_rfl) (by kernel_rfl) ((by have q := hullhas_own h h (by rw [hlh]; exact hid) (by omega) (by omega) dx dy (by omega) hfh; rw [Sp.lim_id (n := dx) (by omega) (by omega), Sp.lim_id (n := dy) (by omega) (by omega)] at q; exact q)) (.cons (.slice _ _ _ _ _ (by decide)) (.cons (.flatB (by kernel_rfl)) .nil)) ⟨rfl, ⟨rfl, rfl, rfl, (.flats (flats_pair _))⟩, trivial⟩ (by kernel_rfl) (by kernel_rfl) (by kernel_rfl) ⟨rfl, ⟨rfl, rfl, rfl, (.flats (flats_pair _))⟩, trivial⟩ (.flatB (by kernel_rfl))) <|
        .a 2 4 <| .p (does_c (hx)) <|
        .p (does_callB (x := .func 34) (ars := #[.tmp 97, .tmp 99]) (ats := #[24, 29]) (g := 34) (vs := [.slice (some ⟨1, 0, none⟩) ps.length 0, .agg #[.int .i64 dx, .int .i64 dy]]) (m := 1) (r := 0) (firsts := #[]) (caps := #[]) (args0 := [.slice (some ⟨0, 0, none⟩) ps.length 0, .agg #[.int .i64 dx, .int .i64 dy]]) (pre0 := [(0, ⟨(ps.flatMap ptc), 29, true, 2⟩)]) (post0 := [(0, ⟨(ps.flatMap ptc), 29, true, 2⟩)]) (pre := [(1, ⟨(ps.flatMap ptc), 29, true, 2⟩)]) (post := [(1, ⟨(ps.flatMap ptc), 29, true, 2⟩)]) (v0 := .bool (Sp.hasH h dx dy)) (v := .bool (Sp.hasH h dx dy)) [1] (by kernel_rfl) (by kernel_rfl) (by kernel_rfl) (by kernel_rfl) ((by have q := hullhas_own ps h (by rw [hlm]; exact hh) (by omega) (by omega) dx dy (by omega) hfh; rw [Sp.lim_id (n := dx) (by omega) (by omega), Sp.lim_id (n := dy) (by omega) (by omega)] at q; exact q)) (.cons (.slice _ _ _ _ _ (by decide)) (.cons (.flatB (by kernel_rfl)) .nil)) ⟨rfl, ⟨rfl, rfl, rfl, (.flats (flats_pair _))⟩, trivial⟩ (by kernel_rfl) (by kernel_rfl) (by kernel_rfl) ⟨rfl, ⟨rfl, rfl, rfl, (.flats (flats_pair _))⟩, trivial⟩ (.flatB (by kernel_rfl))) <|
        .p (does_b true ((show ((Sp.hasH h dx dy) == (Sp.hasH h dx dy)) = true from by simp))) <| .a 2 4 <| .nil _ _) ?_
      refine aw_rt ?_
      exact en_ret [.bool true] (by kernel_rfl)


theorem in64_getD {xs : List Int} (h : ∀ x ∈ xs, (Lit.int .i64 x).wf = true) (i : Nat) : Sp.In64 (xs.getD i 0) := by
  by_cases c : i < xs.length
  · have e : xs.getD i 0 = xs[i] := by rw [List.getD_eq_getElem?_getD, List.getElem?_eq_getElem c]; rfl
    rw [e]; exact in64_of_wf (h _ (List.getElem_mem c))
  · have e : xs.getD i 0 = 0 := by rw [List.getD_eq_getElem?_getD, List.getElem?_eq_none (by omega)]; rfl
    rw [e]; exact ⟨by decide, by decide⟩
theorem hullIs_ok (xs : List Int) (hw : ∀ x ∈ xs, (Lit.int .i64 x).wf = true) (x : Int) (hx : Sp.In64 x) : AC Try.prog 8 1 [.slice (some ⟨0, 0, none⟩) xs.length 0, .int .i64 x] [(0, ⟨(xs.map i64v), 3, false, 1⟩)] (.bool true) [] := by
  have q1 := Sp.smP_bd x
  unfold Sp.smP at q1
  simp only [] at q1
  rcases Nat.eq_zero_or_pos (min xs.length 15) with c | c
  · exact hullIs_nil xs (points_nil xs _ rfl c (in64_getD hw)) x _ _ (small_ok x hx) (by omega) (by omega) (by omega) (by omega)
  · have hp := points_some xs _ rfl c (in64_getD hw)
    have hl : (Sp.ptsL xs).length = min xs.length 15 := by unfold Sp.ptsL; rw [List.length_map, List.length_take]; exact Nat.min_comm _ _
    have ht : (xs.take (min xs.length 15)).map Sp.smP = Sp.ptsL xs := by unfold Sp.ptsL; congr 1; rcases Nat.le_total xs.length 15 with k | k; rw [Nat.min_eq_left k, List.take_of_length_le (Nat.le_refl _), List.take_of_length_le k]; rw [Nat.min_eq_right k]
    rw [ht, ← hl] at hp
    exact hullIs_some xs (Sp.ptsL xs) _ (by omega) (Sp.ptsL_few xs) rfl hp x _ _ (small_ok x hx) (by omega) (by omega) (by omega) (by omega)
end Go.Proofs.Ytadifmimefmcnaa.Am
