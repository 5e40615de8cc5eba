/-
  The walk of the law HullSeen.
-/
import Derived.Test.YtadifmimefmcnaaProg
import Derived.Test.YtadifmimefmcnaaAm16
import Derived.Test.YtadifmimefmcnaaWHullSeen0
namespace Go.Proofs.Ytadifmimefmcnaa.Am
open Go Go.Proofs
set_option maxRecDepth 100000
set_option maxHeartbeats 4000000
set_option linter.unusedVariables false
set_option linter.unusedSimpArgs false

theorem hullSeen_out (xs : List Int) (ps h : List (Int × Int)) (hl : 1 ≤ ps.length ∧ ps.length ≤ 15) (hf : Sp.Few 40 ps) (hh : Sp.hullF ps = h) (hm : AC Try.prog 31 1 [.slice (some ⟨0, 0, none⟩) xs.length 0] [(0, ⟨(xs.map i64v), 3, false, 1⟩)] (.slice (some ⟨1, 0, none⟩) ps.length 0) [(1, ⟨(ps.flatMap ptc), 29, true, 2⟩)]) (x dx dy : Int) (hx : AC Try.prog 32 0 [.int .i64 x] [] (.agg #[.int .i64 dx, .int .i64 dy]) []) (bdx : -40 ≤ dx) (cdx : dx ≤ 40) (bdy : -40 ≤ dy) (cdy : dy ≤ 40) (hin : Sp.hasH h dx dy = false) :
    AC Try.prog 7 1 ([.slice (some ⟨0, 0, none⟩) xs.length 0, .int .i64 x]) [(0, ⟨(xs.map i64v), 3, false, 1⟩)] (.bool true) [] := by
  have hsub : ∀ q ∈ h, q ∈ ps := (fun q hq => Sp.hull_sub (hh ▸ hq)); have hhl := hh ▸ Sp.hull_len hl.1; have hf4 : Sp.Few 40 h := Sp.few_sub (by decide) hf hsub; have hfh : Sp.Few 1048576 h := (fun i => (by have := hf4 i; omega)); have hlm : ps.map Sp.lmP = ps := Sp.lim_few (by decide) hf; obtain ⟨A, hA⟩ : ∃ A, Sp.seA h (dx, dy) (h.length - 1) = A := ⟨_, rfl⟩; obtain ⟨C, hC⟩ : ∃ C, Sp.seB h (dx, dy) (h.length - 1) = C := ⟨_, rfl⟩; have hAm : A ∈ h := hA ▸ Sp.seA_mem (by omega); have hCm : C ∈ h := hC ▸ Sp.seB_mem (by omega); have sa : ∀ q ∈ ps, 0 ≤ Sp.crP (dx, dy) A q ∧ Sp.crP (dx, dy) C q ≤ 0 := (fun q hq => (by have k := Sp.seen_all (p := (dx, dy)) hl.1 (by rw [hh]; exact hin) hq; rw [hh, hA, hC] at k; exact k)); have bA := Sp.few_mem hf4 hAm; have bC := Sp.few_mem hf4 hCm
  refine ac_in Try.func7 (fun w0 W pin => ?_)
  refine aw_p 3 (
    .a 1 1 <| .nil _ _) ?_
  refine aw_sq 6 7 ?_
  refine aw_p 13 (
    .p (does_c (hullBegun_ok)) <| .a 1 1 <| .nil _ _) ?_
  refine aw_fl 27 ?_
  refine aw_sk ?_
  refine then_normal ?_
  refine aw_p 15 (
    .a 1 1 <|
    .p (does_callB (x := .func 31) (ars := #[.tmp 14]) (ats := #[22]) (g := 31) (vs := [.slice (some ⟨0, 0, none⟩) xs.length 0]) (m := 1) (r := 1) (firsts := #[]) (caps := #[]) (args0 := [.slice (some ⟨0, 0, none⟩) xs.length 0]) (pre0 := [(0, ⟨(xs.map i64v), 3, false, 1⟩)]) (post0 := [(1, ⟨(ps.flatMap ptc), 29, true, 2⟩)]) (pre := [(0, ⟨(xs.map i64v), 3, false, 1⟩)]) (post := [(1, ⟨(ps.flatMap ptc), 29, true, 2⟩)]) (v0 := .slice (some ⟨1, 0, none⟩) ps.length 0) (v := .slice (some ⟨1, 0, none⟩) ps.length 0) [0, 1] (by kernel_rfl) (by kernel_rfl) (by kernel_rfl) (by kernel_rfl) (hm) (.cons (.slice _ _ _ _ _ (by decide)) .nil) ⟨rfl, ⟨rfl, rfl, rfl, (.flats (flats_map (fun _ => rfl) _))⟩, trivial⟩ (by kernel_rfl) (by kernel_rfl) (by kernel_rfl) ⟨rfl, ⟨rfl, rfl, rfl, (.flats (flats_pair _))⟩, trivial⟩ (.slice _ _ _ _ _ (by decide))) <|
    .a 1 2 <| .p (does_c (hx)) <| .a 3 2 <| .nil _ _) ?_
  refine aw_p 31 (
    .a 2 3 <|
    .p (does_callB (x := .func 33) (ars := #[.tmp 19, .tmp 20]) (ats := #[24, 29]) (g := 33) (vs := [.slice (some ⟨1, 0, none⟩) ps.length 0, .agg #[.int .i64 dx, .int .i64 dy]]) (m := 1) (r := 0) (firsts := #[]) (caps := #[]) (args0 := [.slice (some ⟨0, 0, none⟩) ps.length 0, .agg #[.int .i64 dx, .int .i64 dy]]) (pre0 := [(0, ⟨(ps.flatMap ptc), 29, true, 2⟩)]) (post0 := [(0, ⟨(ps.flatMap ptc), 29, true, 2⟩)]) (pre := [(1, ⟨(ps.flatMap ptc), 29, true, 2⟩)]) (post := [(1, ⟨(ps.flatMap ptc), 29, true, 2⟩)]) (v0 := .tuple #[.agg #[.int .i64 A.1, .int .i64 A.2], .agg #[.int .i64 C.1, .int .i64 C.2], .int .i64 0]) (v := .tuple #[.agg #[.int .i64 A.1, .int .i64 A.2], .agg #[.int .i64 C.1, .int .i64 C.2], .int .i64 0]) [1] (by kernel_rfl) (by kernel_rfl) (by kernel_rfl) (by kernel_rfl) ((by have q := (hullseen_out_own ps h (by rw [hlm]; exact hh) (by omega) (by omega) dx dy ⟨by omega, by omega⟩ hfh (by omega) (by omega) (by omega) (by omega) hin); rw [hA, hC] at q; exact q)) (.cons (.slice _ _ _ _ _ (by decide)) (.cons (.flatB (by kernel_rfl)) .nil)) ⟨rfl, ⟨rfl, rfl, rfl, (.flats (flats_pair _))⟩, trivial⟩ (by kernel_rfl) (by kernel_rfl) (by kernel_rfl) ⟨rfl, ⟨rfl, rfl, rfl, (.flats (flats_pair _))⟩, trivial⟩ (.flatB (by kernel_rfl))) <|
    .a 9 3 <| .nil _ _) ?_
  refine aw_sq 62 63 ?_
  refine aw_p 125 (
    .a 2 5 <| .nil _ _) ?_
  refine aw_fl 251 ?_
  refine aw_sk ?_
  refine then_normal ?_
  refine aw_sq 126 127 ?_
  refine aw_p 253 (
    .a 3 5 <| .nil _ _) ?_
  refine aw_bl 0 507 ?_
  refine aw_lp 1015 ?_
  refine al_w [(4, .bool false), (5, .slice (some ⟨1, 0, none⟩) ps.length 0), (6, .pointer (some ⟨2, 0, none⟩)), (7, .pointer (some ⟨3, 0, none⟩)), (8, .pointer (some ⟨4, 0, none⟩)), (43, .slice (some ⟨1, 0, none⟩) ps.length 0), (44, .int .i64 ((ps.length : Nat) : Int)), (45, .int .i64 ((0 : Nat) : Int))] [(0, ⟨(xs.map i64v), 3, false, 1⟩), (1, ⟨(ps.flatMap ptc), 29, true, 2⟩), (2, ⟨[.int .i64 dx, .int .i64 dy], 29, true, 2⟩), (3, ⟨[.int .i64 A.1, .int .i64 A.2], 29, true, 2⟩), (4, ⟨[.int .i64 C.1, .int .i64 C.2], 29, true, 2⟩)] ?_ (hc := (by simp [closedB, valsB, valB, List.all_eq_true, List.mem_flatMap, List.mem_range, List.mem_map, i64v, ptc, i64v, flat1]; try (intros; simp [valsB, valB, flat1]); try decide))
  refine al_ind (fun i : Nat => (fun (i : Nat) => mkSt 1 [(4, .bool false), (5, .slice (some ⟨1, 0, none⟩) ps.length 0), (6, .pointer (some ⟨2, 0, none⟩)), (7, .pointer (some ⟨3, 0, none⟩)), (8, .pointer (some ⟨4, 0, none⟩)), (43, .slice (some ⟨1, 0, none⟩) ps.length 0), (44, .int .i64 ((ps.length : Nat) : Int)), (45, .int .i64 ((i : Nat) : Int))] [(0, ⟨(xs.map i64v), 3, false, 1⟩), (1, ⟨(ps.flatMap ptc), 29, true, 2⟩), (2, ⟨[.int .i64 dx, .int .i64 dy], 29, true, 2⟩), (3, ⟨[.int .i64 A.1, .int .i64 A.2], 29, true, 2⟩), (4, ⟨[.int .i64 C.1, .int .i64 C.2], 29, true, 2⟩)]) i) (fun i : Nat => (fun (i : Nat) => (i ≤ ps.length)) i) (fun i : Nat => (fun (i : Nat) => ps.length - i) i) (fun i hi1 ih1 => ?_) 0 (show (0 ≤ ps.length) from by omega)
  obtain ⟨i, hv1⟩ : ∃ z, z = i := ⟨i, rfl⟩; subst hv1
  have hi1' : (i ≤ ps.length) := hi1
  have hi : i ≤ ps.length := hi1'
  show AL _ _ _ (mkSt 1 [(4, .bool false), (5, .slice (some ⟨1, 0, none⟩) ps.length 0), (6, .pointer (some ⟨2, 0, none⟩)), (7, .pointer (some ⟨3, 0, none⟩)), (8, .pointer (some ⟨4, 0, none⟩)), (43, .slice (some ⟨1, 0, none⟩) ps.length 0), (44, .int .i64 ((ps.length : Nat) : Int)), (45, .int .i64 ((i : Nat) : Int))] [(0, ⟨(xs.map i64v), 3, false, 1⟩), (1, ⟨(ps.flatMap ptc), 29, true, 2⟩), (2, ⟨[.int .i64 dx, .int .i64 dy], 29, true, 2⟩), (3, ⟨[.int .i64 A.1, .int .i64 A.2], 29, true, 2⟩), (4, ⟨[.int .i64 C.1, .int .i64 C.2], 29, true, 2⟩)]) _
  refine al_round ?_
  refine aw_p 2031 (
    .a 1 5 <| .nil _ _) ?_
  refine aw_sq 4062 4063 ?_
  refine aw_cd 8124 8125 (decide (((i : Nat) : Int) < ((ps.length : Nat) : Int))) (fun h1 => ?_) (fun h1 => ?_)
  · have h1p : ((((i : Nat) : Int) < ((ps.length : Nat) : Int))) := by first | (simpa using h1) | (have h1q := h1; simp at h1q; omega) | (have h1q := bx1 h1; simp at h1q; omega)
    have hil : i < ps.length := by omega
    have fi := hf i; have si := sa _ (Sp.mem_getD hil)
    refine aw_sk ?_
    refine then_normal ?_
    refine aw_sq 8126 8127 ?_
    refine aw_bl 1 16253 ?_
    refine aw_p 32507 (
      .p (does_indexSlice (t := 24) (x := .tmp 43) (y := .tmp 45) (k := 1) (off := 0) (n := ps.length) (c := 0) (z := 2) (kd := .i64) (j := ((i : Nat) : Int)) (by kernel_rfl) (by kernel_rfl) (by kernel_rfl) (by kernel_rfl) (by kernel_rfl) (by omega) (by omega)) <|
      .p (does_load (t := 29) (x := .tmp 47) (k := 1) (off := (0 + (((i : Nat) : Int)).toNat * 2)) (b := ⟨(ps.flatMap ptc), 29, true, 2⟩) (v := .agg #[.int .i64 ((ps.getD i (0, 0)).1), .int .i64 ((ps.getD i (0, 0)).2)]) (by kernel_rfl) (by kernel_rfl) (by kernel_rfl) (ldV_pair (j := i) (by kernel_rfl) (by kernel_rfl) (by omega) (by omega))) <|
      .a 2 5 <| .nil _ _) ?_
    refine aw_p 65015 (
      .a 3 6 <| .p (does_c (turn_in dx dy A.1 A.2 ((ps.getD i (0, 0)).1) ((ps.getD i (0, 0)).2) (by omega) (by omega) (by omega) (by omega) (by omega) (by omega) (by omega) (by omega) (by omega) (by omega) (by omega) (by omega))) <|
      .p (does_b false (((Sp.cmp_lt0 _).trans (decide_eq_false (Int.not_lt.2 si.1))))) <| .a 4 6 <|
      .p (does_c (turn_in dx dy C.1 C.2 ((ps.getD i (0, 0)).1) ((ps.getD i (0, 0)).2) (by omega) (by omega) (by omega) (by omega) (by omega) (by omega) (by omega) (by omega) (by omega) (by omega) (by omega) (by omega))) <| .p (does_b false (((Sp.cmpd_pos _).trans (decide_eq_false (Int.not_lt.2 si.2))))) <|
      .a 1 6 <| .nil _ _) ?_
    refine aw_fl 130031 ?_
    refine aw_sk ?_
    refine block_normal ?_
    refine then_normal ?_
    refine aw_p1 (
      .p (does_i (((i : Nat) : Int) + 1) (wrap_i64 (by omega) (by omega)) .i64) <| .a 1 6 <| .nil _ _) ?_
    refine then_normal ?_
    refine al_w [(4, .bool false), (5, .slice (some ⟨1, 0, none⟩) ps.length 0), (6, .pointer (some ⟨2, 0, none⟩)), (7, .pointer (some ⟨3, 0, none⟩)), (8, .pointer (some ⟨4, 0, none⟩)), (43, .slice (some ⟨1, 0, none⟩) ps.length 0), (44, .int .i64 ((ps.length : Nat) : Int)), (45, .int .i64 (((i + 1) : Nat) : Int))] [(0, ⟨(xs.map i64v), 3, false, 1⟩), (1, ⟨(ps.flatMap ptc), 29, true, 2⟩), (2, ⟨[.int .i64 dx, .int .i64 dy], 29, true, 2⟩), (3, ⟨[.int .i64 A.1, .int .i64 A.2], 29, true, 2⟩), (4, ⟨[.int .i64 C.1, .int .i64 C.2], 29, true, 2⟩)] ?_ (hc := (by simp [closedB, valsB, valB, List.all_eq_true, List.mem_flatMap, List.mem_range, List.mem_map, i64v, ptc, i64v, flat1]; try (intros; simp [valsB, valB, flat1]); try decide))
    exact ih1 (i + 1) (show ((i + 1) ≤ ps.length) from by omega) (show ps.length - (i + 1) < ps.length - i from by omega)
  · have h1p : ¬ ((((i : Nat) : Int) < ((ps.length : Nat) : Int))) := by first | (simpa using h1) | (have h1q := h1; simp at h1q; omega) | (have h1q := bx2 h1; simp at h1q; omega)
    refine aw_ex 0 ?_
    refine then_exit ?_
    refine then_exit ?_
    refine block_exit ?_
    refine then_normal ?_
    refine aw_p 255 (
      .a 2 5 <|
      .p (does_callB (x := .func 21) (ars := #[.tmp 62, .tmp 63]) (ats := #[24, 29]) (g := 21) (vs := [.slice (some ⟨1, 0, none⟩) ps.length 0, .agg #[.int .i64 A.1, .int .i64 A.2]]) (m := 1) (r := 0) (firsts := #[]) (caps := #[]) (args0 := [.slice (some ⟨0, 0, none⟩) ps.length 0, .agg #[.int .i64 A.1, .int .i64 A.2]]) (pre0 := [(0, ⟨(ps.flatMap ptc), 29, true, 2⟩)]) (post0 := [(0, ⟨(ps.flatMap ptc), 29, true, 2⟩)]) (pre := [(1, ⟨(ps.flatMap ptc), 29, true, 2⟩)]) (post := [(1, ⟨(ps.flatMap ptc), 29, true, 2⟩)]) (v0 := .bool true) (v := .bool true) [1] (by kernel_rfl) (by kernel_rfl) (by kernel_rfl) (by kernel_rfl) ((by have q := contains_ok ps (by omega) (by omega) A.1 A.2; rw [show (ps.any (Sp.eqTo (A.1, A.2))) = true from (List.any_eq_true.2 ⟨A, hsub _ hAm, (Sp.eqTo_iff _ _).2 rfl⟩)] at q; exact q)) (.cons (.slice _ _ _ _ _ (by decide)) (.cons (.flatB (by kernel_rfl)) .nil)) ⟨rfl, ⟨rfl, rfl, rfl, (.flats (flats_pair _))⟩, trivial⟩ (by kernel_rfl) (by kernel_rfl) (by kernel_rfl) ⟨rfl, ⟨rfl, rfl, rfl, (.flats (flats_pair _))⟩, trivial⟩ (.flatB (by kernel_rfl))) <|
      .a 3 5 <|
      .p (does_callB (x := .func 21) (ars := #[.tmp 66, .tmp 67]) (ats := #[24, 29]) (g := 21) (vs := [.slice (some ⟨1, 0, none⟩) ps.length 0, .agg #[.int .i64 C.1, .int .i64 C.2]]) (m := 1) (r := 0) (firsts := #[]) (caps := #[]) (args0 := [.slice (some ⟨0, 0, none⟩) ps.length 0, .agg #[.int .i64 C.1, .int .i64 C.2]]) (pre0 := [(0, ⟨(ps.flatMap ptc), 29, true, 2⟩)]) (post0 := [(0, ⟨(ps.flatMap ptc), 29, true, 2⟩)]) (pre := [(1, ⟨(ps.flatMap ptc), 29, true, 2⟩)]) (post := [(1, ⟨(ps.flatMap ptc), 29, true, 2⟩)]) (v0 := .bool true) (v := .bool true) [1] (by kernel_rfl) (by kernel_rfl) (by kernel_rfl) (by kernel_rfl) ((by have q := contains_ok ps (by omega) (by omega) C.1 C.2; rw [show (ps.any (Sp.eqTo (C.1, C.2))) = true from (List.any_eq_true.2 ⟨C, hsub _ hCm, (Sp.eqTo_iff _ _).2 rfl⟩)] at q; exact q)) (.cons (.slice _ _ _ _ _ (by decide)) (.cons (.flatB (by kernel_rfl)) .nil)) ⟨rfl, ⟨rfl, rfl, rfl, (.flats (flats_pair _))⟩, trivial⟩ (by kernel_rfl) (by kernel_rfl) (by kernel_rfl) ⟨rfl, ⟨rfl, rfl, rfl, (.flats (flats_pair _))⟩, trivial⟩ (.flatB (by kernel_rfl))) <|
      .a 4 5 <|
      .p (does_callB (x := .func 34) (ars := #[.tmp 71, .tmp 72]) (ats := #[24, 29]) (g := 34) (vs := [.slice (some ⟨1, 0, none⟩) ps.length 0, .agg #[.int .i64 dx, .int .i64 dy]]) (m := 1) (r := 0) (firsts := #[]) (caps := #[]) (args0 := [.slice (some ⟨0, 0, none⟩) ps.length 0, .agg #[.int .i64 dx, .int .i64 dy]]) (pre0 := [(0, ⟨(ps.flatMap ptc), 29, true, 2⟩)]) (post0 := [(0, ⟨(ps.flatMap ptc), 29, true, 2⟩)]) (pre := [(1, ⟨(ps.flatMap ptc), 29, true, 2⟩)]) (post := [(1, ⟨(ps.flatMap ptc), 29, true, 2⟩)]) (v0 := .bool (Sp.hasH h dx dy)) (v := .bool (Sp.hasH h dx dy)) [1] (by kernel_rfl) (by kernel_rfl) (by kernel_rfl) (by kernel_rfl) ((by have q := hullhas_own ps h (by rw [hlm]; exact hh) (by omega) (by omega) dx dy (by omega) hfh; rw [Sp.lim_id (n := dx) (by omega) (by omega), Sp.lim_id (n := dy) (by omega) (by omega)] at q; exact q)) (.cons (.slice _ _ _ _ _ (by decide)) (.cons (.flatB (by kernel_rfl)) .nil)) ⟨rfl, ⟨rfl, rfl, rfl, (.flats (flats_pair _))⟩, trivial⟩ (by kernel_rfl) (by kernel_rfl) (by kernel_rfl) ⟨rfl, ⟨rfl, rfl, rfl, (.flats (flats_pair _))⟩, trivial⟩ (.flatB (by kernel_rfl))) <|
      .p (does_b true ((show (!(Sp.hasH h dx dy)) = true from (by rw [hin]; rfl)))) <| .a 2 5 <| .nil _ _) ?_
    refine aw_rt ?_
    exact en_ret [.bool true] (by kernel_rfl)


theorem in64_getD {xs : List Int} (h : ∀ x ∈ xs, (Lit.int .i64 x).wf = true) (i : Nat) : Sp.In64 (xs.getD i 0) := by
  by_cases c : i < xs.length
  · have e : xs.getD i 0 = xs[i] := by rw [List.getD_eq_getElem?_getD, List.getElem?_eq_getElem c]; rfl
    rw [e]; exact in64_of_wf (h _ (List.getElem_mem c))
  · have e : xs.getD i 0 = 0 := by rw [List.getD_eq_getElem?_getD, List.getElem?_eq_none (by omega)]; rfl
    rw [e]; exact ⟨by decide, by decide⟩
theorem hullSeen_ok (xs : List Int) (hw : ∀ x ∈ xs, (Lit.int .i64 x).wf = true) (x : Int) (hx : Sp.In64 x) : AC Try.prog 7 1 [.slice (some ⟨0, 0, none⟩) xs.length 0, .int .i64 x] [(0, ⟨(xs.map i64v), 3, false, 1⟩)] (.bool true) [] := by
  have q1 := Sp.smP_bd x
  unfold Sp.smP at q1
  simp only [] at q1
  rcases Nat.eq_zero_or_pos (min xs.length 15) with c | c
  · exact hullSeen_nil xs (points_nil xs _ rfl c (in64_getD hw)) x _ _ (small_ok x hx) (by omega) (by omega) (by omega) (by omega)
  · have hp := points_some xs _ rfl c (in64_getD hw)
    have hl : (Sp.ptsL xs).length = min xs.length 15 := by unfold Sp.ptsL; rw [List.length_map, List.length_take]; exact Nat.min_comm _ _
    have ht : (xs.take (min xs.length 15)).map Sp.smP = Sp.ptsL xs := by unfold Sp.ptsL; congr 1; rcases Nat.le_total xs.length 15 with k | k; rw [Nat.min_eq_left k, List.take_of_length_le (Nat.le_refl _), List.take_of_length_le k]; rw [Nat.min_eq_right k]
    rw [ht, ← hl] at hp
    rcases Bool.eq_false_or_eq_true (Sp.hasH (Sp.hullF (Sp.ptsL xs)) (x % 81 - 40) (Int.tdiv x 81 % 81 - 40)) with k | k
    · exact hullSeen_in xs (Sp.ptsL xs) _ (by omega) (Sp.ptsL_few xs) rfl hp x _ _ (small_ok x hx) (by omega) (by omega) (by omega) (by omega) k
    · exact hullSeen_out xs (Sp.ptsL xs) _ (by omega) (Sp.ptsL_few xs) rfl hp x _ _ (small_ok x hx) (by omega) (by omega) (by omega) (by omega) k
end Go.Proofs.Ytadifmimefmcnaa.Am
