import Derived.Test.YtomnkdlfmjdckaaRt
import Derived.Test.YtomnkdlfmjdckaaRs1
import Derived.Test.YtomnkdlfmjdckaaRs2
set_option linter.unusedVariables false
set_option linter.unusedSimpArgs false
namespace Go.Proofs.Ytomnkdlfmjdckaa.Am.Sp
open Go
/-! The rings that are drawn are rings, counterclockwise -/
theorem gq_at {s : Int} {r na nb : Nat} (h : gq s r na nb = true) {a b : Nat} (ha : a < na) (hb : b < nb) : good (rng 0 0 r s a b) = true :=
  all_at (f := fun b => good (rng 0 0 r s a b)) (all_at (f := fun a => (List.range nb).all fun b => good (rng 0 0 r s a b)) h ha) hb
theorem tri_all {r : Nat} (h0 : 4 ≤ r) (h1 : r ≤ 19) : gq 1 r (2 * r) (2 * r) = true := by
  have f := fun {n k : Nat} (h : ((List.range n).all fun q => gq 1 (q + k) (2 * (q + k)) (2 * (q + k))) = true) (hk : k ≤ r) (hn : r < k + n) => (by
    have := all_at (f := fun q => gq 1 (q + k) (2 * (q + k)) (2 * (q + k))) h (show r - k < n by omega)
    rw [show r - k + k = r by omega] at this; exact this : gq 1 r (2 * r) (2 * r) = true)
  rcases (show (4 ≤ r ∧ r < 4 + 4) ∨ (8 ≤ r ∧ r < 8 + 3) ∨ (11 ≤ r ∧ r < 11 + 3) ∨ (14 ≤ r ∧ r < 14 + 2) ∨ (16 ≤ r ∧ r < 16 + 2) ∨ (18 ≤ r ∧ r < 18 + 2) by omega) with h | h | h | h | h | h
  · exact f tri4 h.1 h.2
  · exact f tri8 h.1 h.2
  · exact f tri11 h.1 h.2
  · exact f tri14 h.1 h.2
  · exact f tri16 h.1 h.2
  · exact f tri18 h.1 h.2
theorem gq_two {s : Int} {r na nb : Nat} : gq2 s r na nb = gq s r na nb := rfl
theorem ell_all {r : Nat} (h0 : 4 ≤ r) (h1 : r ≤ 19) : gq 2 r r r = true := by
  have f := fun {n k : Nat} (h : ((List.range n).all fun q => gq2 2 (q + k) (q + k) (q + k)) = true) (hk : k ≤ r) (hn : r < k + n) => (by
    have := all_at (f := fun q => gq2 2 (q + k) (q + k) (q + k)) h (show r - k < n by omega)
    rw [show r - k + k = r by omega] at this; exact this : gq 2 r r r = true)
  rcases (show (4 ≤ r ∧ r < 4 + 6) ∨ (10 ≤ r ∧ r < 10 + 4) ∨ (14 ≤ r ∧ r < 14 + 3) ∨ (17 ≤ r ∧ r < 17 + 3) by omega) with h | h | h | h
  · exact f ell4 h.1 h.2
  · exact f ell10 h.1 h.2
  · exact f ell14 h.1 h.2
  · exact f ell17 h.1 h.2
theorem rest_all {r : Nat} (h0 : 4 ≤ r) (h1 : r ≤ 19) : gq 3 r (r - 1) 1 = true ∧ gq 4 r (r - 1) 1 = true ∧ gq 0 r 1 1 = true := by
  have a := all_at (f := fun q => gq2 3 (q + 4) (q + 3) 1) arr4 (show r - 4 < 16 by omega)
  have b := all_at (f := fun q => gq2 4 (q + 4) (q + 3) 1) oct4 (show r - 4 < 16 by omega)
  have c := all_at (f := fun q => gq2 0 (q + 4) 1 1) sqr4 (show r - 4 < 16 by omega)
  rw [show r - 4 + 4 = r by omega] at a b c
  rw [show r - 4 + 3 = r - 1 by omega] at a b
  exact ⟨a, b, c⟩
theorem rng_shift (x y r s u v u' v' : Int) (h1 : s = 1 → u % (2 * r) = u' % (2 * r) ∧ v % (2 * r) = v' % (2 * r)) (h2 : s = 2 → u % r = u' % r ∧ v % r = v' % r) (h3 : s = 3 ∨ s = 4 → u % (r - 1) = u' % (r - 1)) : rng x y r s u v = (rng 0 0 r s u' v').map (move2 (x, y)) := by
  unfold rng
  by_cases c1 : s = 1
  · rw [if_pos c1, if_pos c1, (h1 c1).1, (h1 c1).2]
    simp only [List.map_cons, List.map_nil, move2, List.cons.injEq, Prod.mk.injEq, and_true]; omega
  · rw [if_neg c1, if_neg c1]
    by_cases c2 : s = 2
    · rw [if_pos c2, if_pos c2, (h2 c2).1, (h2 c2).2]
      simp only [List.map_cons, List.map_nil, move2, List.cons.injEq, Prod.mk.injEq, and_true]
      generalize u' % r = a
      generalize v' % r = b
      omega
    · rw [if_neg c2, if_neg c2]
      by_cases c3 : s = 3
      · rw [if_pos c3, if_pos c3, h3 (.inl c3)]
        simp only [List.map_cons, List.map_nil, move2, List.cons.injEq, Prod.mk.injEq, and_true]
        generalize u' % (r - 1) = a
        omega
      · rw [if_neg c3, if_neg c3]
        by_cases c4 : s = 4
        · rw [if_pos c4, if_pos c4, h3 (.inr c4)]
          simp only [List.map_cons, List.map_nil, move2, List.cons.injEq, Prod.mk.injEq, and_true]
          generalize u' % (r - 1) = a
          omega
        · rw [if_neg c4, if_neg c4]
          simp only [List.map_cons, List.map_nil, move2, List.cons.injEq, Prod.mk.injEq, and_true]; omega
/-- the number below n that is told by a raw number -/
theorem nat_mod (u : Int) {n : Nat} (h : 0 < n) : ∃ a : Nat, a < n ∧ u % (n : Int) = ((a : Nat) : Int) % (n : Int) := by
  have b := emod_bd u (n := (n : Int)) (by omega)
  refine ⟨(u % (n : Int)).toNat, by omega, ?_⟩
  rw [Int.toNat_of_nonneg b.1, Int.emod_emod]
theorem rng_good {x y : Int} {r : Nat} {s : Int} (hx : -20 ≤ x ∧ x ≤ 20) (hy : -20 ≤ y ∧ y ≤ 20) (h0 : 4 ≤ r) (h1 : r ≤ 19) (hs : 0 ≤ s ∧ s ≤ 4) (u v : Int) :
    ∃ u' v' : Int, good (rng 0 0 r s u' v') = true ∧ rng x y r s u v = (rng 0 0 r s u' v').map (move2 (x, y)) := by
  have t := rest_all h0 h1
  rcases (show s = 0 ∨ s = 1 ∨ s = 2 ∨ s = 3 ∨ s = 4 by omega) with rfl | rfl | rfl | rfl | rfl
  · exact ⟨((0 : Nat) : Int), ((0 : Nat) : Int), gq_at t.2.2 (by omega) (by omega), rng_shift _ _ _ _ _ _ _ _ (by omega) (by omega) (by omega)⟩
  · obtain ⟨a, ha, ea⟩ := nat_mod u (n := 2 * r) (by omega)
    obtain ⟨b, hb, eb⟩ := nat_mod v (n := 2 * r) (by omega)
    exact ⟨a, b, gq_at (tri_all h0 h1) ha hb, rng_shift _ _ _ _ _ _ _ _ (fun _ => ⟨by simpa using ea, by simpa using eb⟩) (by omega) (by omega)⟩
  · obtain ⟨a, ha, ea⟩ := nat_mod u (n := r) (by omega)
    obtain ⟨b, hb, eb⟩ := nat_mod v (n := r) (by omega)
    exact ⟨a, b, gq_at (ell_all h0 h1) ha hb, rng_shift _ _ _ _ _ _ _ _ (by omega) (fun _ => ⟨ea, eb⟩) (by omega)⟩
  · obtain ⟨a, ha, ea⟩ := nat_mod u (n := r - 1) (by omega)
    rw [show ((r - 1 : Nat) : Int) = (r : Int) - 1 by omega] at ea
    exact ⟨a, ((0 : Nat) : Int), gq_at t.1 ha (by omega), rng_shift _ _ _ _ _ _ _ _ (by omega) (by omega) (fun _ => ea)⟩
  · obtain ⟨a, ha, ea⟩ := nat_mod u (n := r - 1) (by omega)
    rw [show ((r - 1 : Nat) : Int) = (r : Int) - 1 by omega] at ea
    exact ⟨a, ((0 : Nat) : Int), gq_at t.2.1 ha (by omega), rng_shift _ _ _ _ _ _ _ _ (by omega) (by omega) (fun _ => ea)⟩
theorem rngL_good (xs : List Int) : allap (rngL xs) (rngL xs).length = true ∧ 0 < areaN (rngL xs) := by
  have a := emod_bd (xs.getD 0 0) (n := 40) (by decide)
  have b := emod_bd (xs.getD 1 0) (n := 40) (by decide)
  have c := emod_bd (xs.getD 2 0) (n := 16) (by decide)
  have d := emod_bd (xs.getD 3 0) (n := 5) (by decide)
  have hfm := rngL_few xs
  have hlm := rngL_len xs
  unfold rngL at *
  obtain ⟨r, hr⟩ : ∃ r : Nat, 4 + xs.getD 2 0 % 16 = (r : Int) := ⟨(4 + xs.getD 2 0 % 16).toNat, by omega⟩
  have hr4 : 4 ≤ r ∧ r ≤ 19 := by omega
  rw [hr] at hfm hlm ⊢
  obtain ⟨u', v', hg, e⟩ := rng_good (x := xs.getD 0 0 % 40 - 20) (y := xs.getD 1 0 % 40 - 20) (r := r) (s := xs.getD 3 0 % 5) (by omega) (by omega) (by omega) (by omega) (by omega) (xs.getD 4 0) (xs.getD 5 0)
  have hf0 : Few 40 (rng 0 0 r (xs.getD 3 0 % 5) u' v') := rng_few (by omega) (by omega) (by omega)
  have hl0 := rng_len 0 0 r (xs.getD 3 0 % 5) u' v'
  rw [e] at hfm hlm ⊢
  unfold good at hg
  rw [Bool.and_eq_true] at hg
  refine ⟨allap_move (m := 40) (by omega) hf0 (by omega) (by omega) hl0.1 hg.1, ?_⟩
  have q := of_decide_eq_true hg.2
  rw [← (twF_area hf0 hl0.2).1] at q
  rw [← (twF_area hfm hlm.2).1, twF_move (m := 40) (by omega) hf0 (by omega) (by omega) (by omega)]
  exact q
end Go.Proofs.Ytomnkdlfmjdckaa.Am.Sp

set_option linter.unusedVariables false
set_option linter.unusedSimpArgs false
namespace Go.Proofs.Ytomnkdlfmjdckaa.Am.Sp
open Go
/-! One normal form -/
def aftP (a q : Int × Int) : Bool := decide (pcmp a.1 a.2 q.1 q.2 > 0)
theorem aft_bef (a q : Int × Int) : aftP a q = befP q a := by
  unfold aftP befP
  rw [pcmp_anti a.1, Bool.eq_iff_iff, decide_eq_true_iff, decide_eq_true_iff]; omega
theorem least_any {ps : List (Int × Int)} {m : Nat} (h : Least ps m) : ps.any (aftP (ps.getD m (0, 0))) = false := by
  rw [List.any_eq_false]
  intro q hq
  obtain ⟨j, hj, e⟩ := List.mem_iff_getElem.1 hq
  have := h j hj
  rw [getD_lt hj, e] at this
  rw [aft_bef, this]; simp
section
variable {ps : List (Int × Int)} {a m k : Nat}
theorem rings_of (hl : 3 ≤ ps.length ∧ ps.length ≤ 8) (hf : Few 40 ps) (hg : allap ps ps.length = true ∧ 0 < areaN ps) (ha : a < ps.length) :
    (chkF ps = 0 ∧ chkF (rotL ps a).reverse = 0) ∧ ((twF ps 1 0 = areaN ps ∧ twF (rotL ps a) 1 0 = areaN ps ∧ twF (rotL ps a).reverse 1 0 = -areaN ps) ∧ areaN ps ≤ 51200) := by
  have h1 := allap_rot ha hl.1 hg.1
  have l1 := rotL_len (ps := ps) (a := a) (by omega)
  have f1 := few_rot (a := a) (by decide) hf
  have f2 := few_rev (by decide) f1
  have l2 : (rotL ps a).reverse.length = ps.length := by rw [List.length_reverse, l1]
  refine ⟨⟨chk_of hl.1 (by omega) (few_nok (by decide) hf) hg.1, chk_of (by omega) (by omega) (few_nok (by decide) f2) (allap_rev (by omega) h1)⟩, ⟨(twF_area hf hl.2).1, ?_, ?_⟩, (twF_area hf hl.2).2.2⟩
  · rw [(twF_area f1 (by omega)).1, area_rot ha]
  · rw [(twF_area f2 (by omega)).1, area_rev (by omega), area_rot ha]
theorem norms_of (hl : 3 ≤ ps.length ∧ ps.length ≤ 8) (hf : Few 40 ps) (hg : allap ps ps.length = true ∧ 0 < areaN ps) (ha : a < ps.length) (hm : m < ps.length) (hk : k < ps.length) (hkm : (a + k) % ps.length = m) :
    nrmL ps m = rotL ps m ∧ nrmL (rotL ps a) k = rotL ps m ∧ nrmL (rotL ps a).reverse (ps.length - 1 - k) = rotL ps m ∧ nrmL (rotL ps m) 0 = rotL ps m := by
  have r := rings_of hl hf hg ha
  have r2 := rings_of hl hf hg hm
  have l1 := rotL_len (ps := ps) (a := a) (by omega)
  refine ⟨nrm_pl (by omega), ?_, ?_, ?_⟩
  · rw [nrm_pl (by omega), rot_rot ha hk hkm]
  · rw [nrm_rev (q := k) (by omega) (by rw [List.length_reverse, l1]; omega), List.reverse_reverse, rot_rot ha hk hkm]
  · rw [nrm_pl (by omega), rot_zero]
theorem diffs_of (hl : 3 ≤ ps.length ∧ ps.length ≤ 8) (hf : Few 40 ps) (hg : allap ps ps.length = true ∧ 0 < areaN ps) (ha : a < ps.length) : Diff ps ∧ Diff (rotL ps a) ∧ Diff (rotL ps a).reverse := by
  have d := (chk_diff (rings_of hl hf hg ha).1.1).2
  exact ⟨d, diff_rot ha d, diff_rev (diff_rot ha d)⟩
theorem rot_first (hm : m < ps.length) : (rotL ps m).getD 0 (0, 0) = ps.getD m (0, 0) := by rw [rotL_at hm (by omega), Nat.add_zero, Nat.mod_eq_of_lt hm]
theorem least_zero (hm : m < ps.length) (h : Least ps m) : Least (rotL ps m) 0 := by
  intro j hj
  rw [rotL_len (by omega)] at hj
  rw [rot_first hm, rotL_at hm hj]
  exact h _ (Nat.mod_lt _ (by omega))
end
end Go.Proofs.Ytomnkdlfmjdckaa.Am.Sp

