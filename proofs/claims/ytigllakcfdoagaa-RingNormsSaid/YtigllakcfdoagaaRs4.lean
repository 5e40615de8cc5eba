import Derived.Test.YtigllakcfdoagaaRs1
import Derived.Test.YtigllakcfdoagaaRs2
set_option linter.unusedVariables false
set_option linter.unusedSimpArgs false
namespace Go.Proofs.Ytigllakcfdoagaa.Am.Sp
open Go
/-! The rings that are drawn are rings, counterclockwise -/
theorem has2_move (dx dy : Int) (l : List (Int × Int)) (px py : Int) : has2 (l.map (move2 (dx, dy))) (px + dx) (py + dy) = has2 l px py := by
  unfold has2
  rw [List.any_map]
  congr 1
  funext z
  simp only [Function.comp, move2]
  rw [Bool.eq_iff_iff]; simp only [Bool.and_true, Bool.and_eq_true, beq_iff_eq]
  omega
theorem addp_move (dx dy : Int) (l : List (Int × Int)) (px py qx qy rx ry : Int) : addp (l.map (move2 (dx, dy))) (px + dx) (py + dy) (qx + dx) (qy + dy) (rx + dx) (ry + dy) = (addp l px py qx qy rx ry).map (move2 (dx, dy)) := by
  have e : addb (l.map (move2 (dx, dy))) (px + dx) (py + dy) (qx + dx) (qy + dy) (rx + dx) (ry + dy) = addb l px py qx qy rx ry := by
    unfold addb; rw [has2_move]; congr 1; exact onb_move2 (dx, dy) (qx, qy) (rx, ry) (px, py)
  unfold addp; rw [e]
  split
  · rw [List.map_append]; rfl
  · rfl
theorem meetN_move (dx dy ax ay bx b_y cx cy ex ey : Int) : meetN (ax + dx) (ay + dy) (bx + dx) (b_y + dy) (cx + dx) (cy + dy) (ex + dx) (ey + dy) = meetN ax ay bx b_y cx cy ex ey := by
  have hs : shr (ax + dx) (ay + dy) (bx + dx) (b_y + dy) (cx + dx) (cy + dy) (ex + dx) (ey + dy) = (shr ax ay bx b_y cx cy ex ey).map (move2 (dx, dy)) := by
    unfold shr
    rw [← addp_move, ← addp_move, ← addp_move, ← addp_move]; rfl
  unfold meetN
  rw [hs, List.length_map]
  have hp : prp (ax + dx) (ay + dy) (bx + dx) (b_y + dy) (cx + dx) (cy + dy) (ex + dx) (ey + dy) = prp ax ay bx b_y cx cy ex ey := by
    unfold prp; rw [← crs_move, ← crs_move, ← crs_move, ← crs_move]
  rw [hp]
theorem cA_move {ps : List (Int × Int)} {dx dy : Int} {m : Int} (hm : m ≤ 1000) (hf : Few m ps) (hx : -1000 ≤ dx ∧ dx ≤ 1000) (hy : -1000 ≤ dy ∧ dy ≤ 1000) {i : Nat} (hi : i < ps.length) : cA (ps.map (move2 (dx, dy))) i = cA ps i + dx ∧ cB (ps.map (move2 (dx, dy))) i = cB ps i + dy := by
  unfold cA cB; rw [getD_map hi]
  have := hf i
  simp only [move2]
  rw [lim_id (by omega) (by omega), lim_id (by omega) (by omega), lim_id (by omega) (by omega), lim_id (by omega) (by omega)]; exact ⟨rfl, rfl⟩
theorem eqP_move {ps : List (Int × Int)} {d : Int × Int} {i j : Nat} (hi : i < ps.length) (hj : j < ps.length) : eqP (ps.map (move2 d)) i j = eqP ps i j := by
  unfold eqP gx gy
  rw [getD_map hi, getD_map hj, Bool.eq_iff_iff]
  simp only [move2, Bool.and_true, Bool.and_eq_true, beq_iff_eq]; omega
theorem allap_move {ps : List (Int × Int)} {dx dy : Int} {m : Int} (hm : m ≤ 1000) (hf : Few m ps) (hx : -1000 ≤ dx ∧ dx ≤ 1000) (hy : -1000 ≤ dy ∧ dy ≤ 1000) (hn : 3 ≤ ps.length) (h : allap ps ps.length = true) : allap (ps.map (move2 (dx, dy))) (ps.map (move2 (dx, dy))).length = true := by
  rw [allap_iff (by simpa using hn)]
  rw [allap_iff hn] at h
  rw [List.length_map]
  intro i k hi hk hne
  have o := h i k hi hk hne
  have mi := Nat.mod_lt (i + 1) (show 0 < ps.length by omega)
  have mk := Nat.mod_lt (k + 1) (show 0 < ps.length by omega)
  unfold okE at *
  rw [List.length_map]
  refine ⟨⟨by rw [eqP_move hi mi]; exact o.1.1, by rw [eqP_move hk mk]; exact o.1.2⟩, ?_⟩
  rw [← o.2]
  unfold mnE
  have c := fun {j : Nat} (hj : j < ps.length) => cA_move (dx := dx) (dy := dy) hm hf hx hy hj
  rw [(c hi).1, (c hi).2, (c mi).1, (c mi).2, (c hk).1, (c hk).2, (c mk).1, (c mk).2, meetN_move]
theorem twF_move {ps : List (Int × Int)} {dx dy : Int} {m : Int} (hm : m ≤ 1000) (hf : Few m ps) (hx : -1000 ≤ dx ∧ dx ≤ 1000) (hy : -1000 ≤ dy ∧ dy ≤ 1000) (h0 : 1 ≤ ps.length) : twF (ps.map (move2 (dx, dy))) 1 0 = twF ps 1 0 := by
  refine twF_congr (by simp) (fun k hk => ?_) (ps.length - 1) 1 0 (by simp; omega)
  rw [List.length_map] at hk
  have c := fun {j : Nat} (hj : j < ps.length) => cA_move (dx := dx) (dy := dy) hm hf hx hy hj
  rw [(c (show 0 < ps.length by omega)).1, (c (show 0 < ps.length by omega)).2, (c (show k < ps.length by omega)).1, (c (show k < ps.length by omega)).2, (c hk).1, (c hk).2, ← crs_move]
theorem gq_at {s : Int} {r na nb : Nat} (h : gq s r na nb = true) {a b : Nat} (ha : a < na) (hb : b < nb) : good (rng 0 0 r s a b) = true :=
  all_at (f := fun b => good (rng 0 0 r s a b)) (all_at (f := fun a => (List.range nb).all fun b => good (rng 0 0 r s a b)) h ha) hb
theorem tri_all {r : Nat} (h0 : 4 ≤ r) (h1 : r ≤ 19) : gq 1 r (2 * r) (2 * r) = true := by
  have f := fun {n k : Nat} (h : ((List.range n).all fun q => gq 1 (q + k) (2 * (q + k)) (2 * (q + k))) = true) (hk : k ≤ r) (hn : r < k + n) => (by
    have := all_at (f := fun q => gq 1 (q + k) (2 * (q + k)) (2 * (q + k))) h (show r - k < n by omega)
    rw [show r - k + k = r by omega] at this; exact this : gq 1 r (2 * r) (2 * r) = true)
  rcases (show (4 ≤ r ∧ r < 4 + 4) ∨ (8 ≤ r ∧ r < 8 + 3) ∨ (11 ≤ r ∧ r < 11 + 3) ∨ (14 ≤ r ∧ r < 14 + 2) ∨ (16 ≤ r ∧ r < 16 + 2) ∨ (18 ≤ r ∧ r < 18 + 2) by omega) with h | h | h | h | h | h
  · exact f tri4 h.1 h.2
  · exact f tri8 h.1 h.2
  · exact f tri11 h.1 h.2
  · exact f tri14 h.1 h.2
  · exact f tri16 h.1 h.2
  · exact f tri18 h.1 h.2
theorem gq_two {s : Int} {r na nb : Nat} : gq2 s r na nb = gq s r na nb := rfl
theorem ell_all {r : Nat} (h0 : 4 ≤ r) (h1 : r ≤ 19) : gq 2 r r r = true := by
  have f := fun {n k : Nat} (h : ((List.range n).all fun q => gq2 2 (q + k) (q + k) (q + k)) = true) (hk : k ≤ r) (hn : r < k + n) => (by
    have := all_at (f := fun q => gq2 2 (q + k) (q + k) (q + k)) h (show r - k < n by omega)
    rw [show r - k + k = r by omega] at this; exact this : gq 2 r r r = true)
  rcases (show (4 ≤ r ∧ r < 4 + 6) ∨ (10 ≤ r ∧ r < 10 + 4) ∨ (14 ≤ r ∧ r < 14 + 3) ∨ (17 ≤ r ∧ r < 17 + 3) by omega) with h | h | h | h
  · exact f ell4 h.1 h.2
  · exact f ell10 h.1 h.2
  · exact f ell14 h.1 h.2
  · exact f ell17 h.1 h.2
theorem rest_all {r : Nat} (h0 : 4 ≤ r) (h1 : r ≤ 19) : gq 3 r (r - 1) 1 = true ∧ gq 4 r (r - 1) 1 = true ∧ gq 0 r 1 1 = true := by
  have a := all_at (f := fun q => gq2 3 (q + 4) (q + 3) 1) arr4 (show r - 4 < 16 by omega)
  have b := all_at (f := fun q => gq2 4 (q + 4) (q + 3) 1) oct4 (show r - 4 < 16 by omega)
  have c := all_at (f := fun q => gq2 0 (q + 4) 1 1) sqr4 (show r - 4 < 16 by omega)
  rw [show r - 4 + 4 = r by omega] at a b c
  rw [show r - 4 + 3 = r - 1 by omega] at a b
  exact ⟨a, b, c⟩
theorem rng_shift (x y r s u v u' v' : Int) (h1 : s = 1 → u % (2 * r) = u' % (2 * r) ∧ v % (2 * r) = v' % (2 * r)) (h2 : s = 2 → u % r = u' % r ∧ v % r = v' % r) (h3 : s = 3 ∨ s = 4 → u % (r - 1) = u' % (r - 1)) : rng x y r s u v = (rng 0 0 r s u' v').map (move2 (x, y)) := by
  unfold rng
  by_cases c1 : s = 1
  · rw [if_pos c1, if_pos c1, (h1 c1).1, (h1 c1).2]
    simp only [List.map_cons, List.map_nil, move2, List.cons.injEq, Prod.mk.injEq, and_true]; omega
  · rw [if_neg c1, if_neg c1]
    by_cases c2 : s = 2
    · rw [if_pos c2, if_pos c2, (h2 c2).1, (h2 c2).2]
      simp only [List.map_cons, List.map_nil, move2, List.cons.injEq, Prod.mk.injEq, and_true]
      generalize u' % r = a
      generalize v' % r = b
      omega
    · rw [if_neg c2, if_neg c2]
      by_cases c3 : s = 3
      · rw [if_pos c3, if_pos c3, h3 (.inl c3)]
        simp only [List.map_cons, List.map_nil, move2, List.cons.injEq, Prod.mk.injEq, and_true]
        generalize u' % (r - 1) = a
        omega
      · rw [if_neg c3, if_neg c3]
        by_cases c4 : s = 4
        · rw [if_pos c4, if_pos c4, h3 (.inr c4)]
          simp only [List.map_cons, List.map_nil, move2, List.cons.injEq, Prod.mk.injEq, and_true]
          generalize u' % (r - 1) = a
          omega
        · rw [if_neg c4, if_neg c4]
          simp only [List.map_cons, List.map_nil, move2, List.cons.injEq, Prod.mk.injEq, and_true]; omega
/-- the number below n that is told by a raw number -/
theorem nat_mod (u : Int) {n : Nat} (h : 0 < n) : ∃ a : Nat, a < n ∧ u % (n : Int) = ((a : Nat) : Int) % (n : Int) := by
  have b := emod_bd u (n := (n : Int)) (by omega)
  refine ⟨(u % (n : Int)).toNat, by omega, ?_⟩
  rw [Int.toNat_of_nonneg b.1, Int.emod_emod]
theorem rng_good {x y : Int} {r : Nat} {s : Int} (hx : -20 ≤ x ∧ x ≤ 20) (hy : -20 ≤ y ∧ y ≤ 20) (h0 : 4 ≤ r) (h1 : r ≤ 19) (hs : 0 ≤ s ∧ s ≤ 4) (u v : Int) :
    ∃ u' v' : Int, good (rng 0 0 r s u' v') = true ∧ rng x y r s u v = (rng 0 0 r s u' v').map (move2 (x, y)) := by
  have t := rest_all h0 h1
  rcases (show s = 0 ∨ s = 1 ∨ s = 2 ∨ s = 3 ∨ s = 4 by omega) with rfl | rfl | rfl | rfl | rfl
  · exact ⟨((0 : Nat) : Int), ((0 : Nat) : Int), gq_at t.2.2 (by omega) (by omega), rng_shift _ _ _ _ _ _ _ _ (by omega) (by omega) (by omega)⟩
  · obtain ⟨a, ha, ea⟩ := nat_mod u (n := 2 * r) (by omega)
    obtain ⟨b, hb, eb⟩ := nat_mod v (n := 2 * r) (by omega)
    exact ⟨a, b, gq_at (tri_all h0 h1) ha hb, rng_shift _ _ _ _ _ _ _ _ (fun _ => ⟨by simpa using ea, by simpa using eb⟩) (by omega) (by omega)⟩
  · obtain ⟨a, ha, ea⟩ := nat_mod u (n := r) (by omega)
    obtain ⟨b, hb, eb⟩ := nat_mod v (n := r) (by omega)
    exact ⟨a, b, gq_at (ell_all h0 h1) ha hb, rng_shift _ _ _ _ _ _ _ _ (by omega) (fun _ => ⟨ea, eb⟩) (by omega)⟩
  · obtain ⟨a, ha, ea⟩ := nat_mod u (n := r - 1) (by omega)
    rw [show ((r - 1 : Nat) : Int) = (r : Int) - 1 by omega] at ea
    exact ⟨a, ((0 : Nat) : Int), gq_at t.1 ha (by omega), rng_shift _ _ _ _ _ _ _ _ (by omega) (by omega) (fun _ => ea)⟩
  · obtain ⟨a, ha, ea⟩ := nat_mod u (n := r - 1) (by omega)
    rw [show ((r - 1 : Nat) : Int) = (r : Int) - 1 by omega] at ea
    exact ⟨a, ((0 : Nat) : Int), gq_at t.2.1 ha (by omega), rng_shift _ _ _ _ _ _ _ _ (by omega) (by omega) (fun _ => ea)⟩
theorem few_le {m k : Int} {ps : List (Int × Int)} (h : Few m ps) (hk : m ≤ k) : Few k ps := fun i => by have := h i; omega
theorem rngL_good (xs : List Int) : allap (rngL xs) (rngL xs).length = true ∧ 0 < areaN (rngL xs) := by
  have a := emod_bd (xs.getD 0 0) (n := 40) (by decide)
  have b := emod_bd (xs.getD 1 0) (n := 40) (by decide)
  have c := emod_bd (xs.getD 2 0) (n := 16) (by decide)
  have d := emod_bd (xs.getD 3 0) (n := 5) (by decide)
  have hfm := rngL_few xs
  have hlm := rngL_len xs
  unfold rngL at *
  obtain ⟨r, hr⟩ : ∃ r : Nat, 4 + xs.getD 2 0 % 16 = (r : Int) := ⟨(4 + xs.getD 2 0 % 16).toNat, by omega⟩
  have hr4 : 4 ≤ r ∧ r ≤ 19 := by omega
  rw [hr] at hfm hlm ⊢
  obtain ⟨u', v', hg, e⟩ := rng_good (x := xs.getD 0 0 % 40 - 20) (y := xs.getD 1 0 % 40 - 20) (r := r) (s := xs.getD 3 0 % 5) (by omega) (by omega) (by omega) (by omega) (by omega) (xs.getD 4 0) (xs.getD 5 0)
  have hf0 : Few 40 (rng 0 0 r (xs.getD 3 0 % 5) u' v') := rng_few (by omega) (by omega) (by omega)
  have hl0 := rng_len 0 0 r (xs.getD 3 0 % 5) u' v'
  rw [e] at hfm hlm ⊢
  unfold good at hg
  rw [Bool.and_eq_true] at hg
  refine ⟨allap_move (m := 40) (by omega) hf0 (by omega) (by omega) hl0.1 hg.1, ?_⟩
  have q := of_decide_eq_true hg.2
  rw [← (twF_area hf0 hl0.2).1] at q
  rw [← (twF_area hfm hlm.2).1, twF_move (m := 40) (by omega) hf0 (by omega) (by omega) (by omega)]
  exact q
/-! ### the check, the normal form -/
theorem few_nok {m : Int} {ps : List (Int × Int)} (hm : m ≤ 1048576) (h : Few m ps) : ps.any nok = false := by
  rw [List.any_eq_false]
  intro q hq
  have := few_mem h hq
  unfold nok
  rw [(okb_iff q.1 q.2).2 (by omega)]; simp
theorem chk_of {ps : List (Int × Int)} (h1 : 3 ≤ ps.length) (h2 : ps.length ≤ 200) (h3 : ps.any nok = false) (h4 : allap ps ps.length = true) : chkF ps = 0 :=
  chk_0 (decide_eq_false (by omega)) (decide_eq_false (by omega)) h3 rfl h4
theorem few_rot {m : Int} {ps : List (Int × Int)} {a : Nat} (hm : 0 ≤ m) (h : Few m ps) : Few m (rotL ps a) := few_of hm fun q hq => by
  unfold rotL at hq
  rcases List.mem_append.1 hq with k | k
  · exact few_mem h (List.mem_of_mem_drop k)
  · exact few_mem h (List.mem_of_mem_take k)
theorem few_rev {m : Int} {ps : List (Int × Int)} (hm : 0 ≤ m) (h : Few m ps) : Few m ps.reverse := few_of hm fun q hq => few_mem h (List.mem_reverse.1 hq)
theorem diff_rot {ps : List (Int × Int)} {a : Nat} (ha : a < ps.length) (h : Diff ps) : Diff (rotL ps a) := by
  intro i j hij hj e
  rw [rotL_len (by omega)] at hj
  rw [rotL_at ha (by omega), rotL_at ha hj] at e
  have := diff_eq h (Nat.mod_lt _ (by omega)) (Nat.mod_lt _ (by omega)) e
  by_cases c1 : a + i < ps.length <;> by_cases c2 : a + j < ps.length
  · rw [Nat.mod_eq_of_lt c1, Nat.mod_eq_of_lt c2] at this; omega
  · rw [Nat.mod_eq_of_lt c1, Nat.mod_eq_sub_mod (by omega), Nat.mod_eq_of_lt (by omega)] at this; omega
  · omega
  · rw [Nat.mod_eq_sub_mod (by omega), Nat.mod_eq_of_lt (by omega), Nat.mod_eq_sub_mod (a := a + j) (by omega), Nat.mod_eq_of_lt (by omega)] at this; omega
/-- the least corner stays the least one -/
abbrev Least (ps : List (Int × Int)) (m : Nat) : Prop := ∀ j, j < ps.length → befP (ps.getD j (0, 0)) (ps.getD m (0, 0)) = false
theorem least_rot {ps : List (Int × Int)} {a m : Nat} (ha : a < ps.length) (hm : m < ps.length) (h : Least ps m) : ∃ k, k < ps.length ∧ (a + k) % ps.length = m ∧ Least (rotL ps a) k := by
  have hk : ∃ k, k < ps.length ∧ (a + k) % ps.length = m := by
    by_cases c : a ≤ m
    · exact ⟨m - a, by omega, by rw [Nat.mod_eq_of_lt (by omega)]; omega⟩
    · exact ⟨m + ps.length - a, by omega, by rw [show a + (m + ps.length - a) = m + ps.length by omega, Nat.add_mod_right, Nat.mod_eq_of_lt hm]⟩
  obtain ⟨k, k1, k2⟩ := hk
  refine ⟨k, k1, k2, fun j hj => ?_⟩
  rw [rotL_len (by omega)] at hj
  rw [rotL_at ha hj, rotL_at ha k1, k2]
  exact h _ (Nat.mod_lt _ (by omega))
theorem least_rev {ps : List (Int × Int)} {m : Nat} (hm : m < ps.length) (h : Least ps m) : Least ps.reverse (ps.length - 1 - m) := by
  intro j hj
  rw [List.length_reverse] at hj
  rw [rev_at hj, rev_at (by omega), show ps.length - 1 - (ps.length - 1 - m) = m by omega]
  exact h _ (by omega)
theorem rot_rot {ps : List (Int × Int)} {a k m : Nat} (ha : a < ps.length) (hk : k < ps.length) (h : (a + k) % ps.length = m) : rotL (rotL ps a) k = rotL ps m := by
  have hl := rotL_len (ps := ps) (a := a) (by omega)
  have hm : m < ps.length := h ▸ Nat.mod_lt _ (by omega)
  refine ext_getD (by rw [rotL_len (by omega), hl, rotL_len (by omega)]) fun i hi => ?_
  rw [rotL_len (by omega), hl] at hi
  rw [rotL_at (by omega) (by omega), hl, rotL_at ha (Nat.mod_lt _ (by omega)), rotL_at hm hi, ← h]
  congr 1
  rw [Nat.add_mod_mod, Nat.mod_add_mod, Nat.add_assoc]
theorem rot_zero (ps : List (Int × Int)) : rotL ps 0 = ps := by unfold rotL; simp
end Go.Proofs.Ytigllakcfdoagaa.Am.Sp

set_option linter.unusedVariables false
set_option linter.unusedSimpArgs false
namespace Go.Proofs.Ytigllakcfdoagaa.Am.Sp
open Go
/-! One normal form -/
def aftP (a q : Int × Int) : Bool := decide (pcmp a.1 a.2 q.1 q.2 > 0)
theorem aft_bef (a q : Int × Int) : aftP a q = befP q a := by
  unfold aftP befP
  rw [pcmp_anti a.1, Bool.eq_iff_iff, decide_eq_true_iff, decide_eq_true_iff]; omega
theorem least_any {ps : List (Int × Int)} {m : Nat} (h : Least ps m) : ps.any (aftP (ps.getD m (0, 0))) = false := by
  rw [List.any_eq_false]
  intro q hq
  obtain ⟨j, hj, e⟩ := List.mem_iff_getElem.1 hq
  have := h j hj
  rw [getD_lt hj, e] at this
  rw [aft_bef, this]; simp
section
variable {ps : List (Int × Int)} {a m k : Nat}
theorem rings_of (hl : 3 ≤ ps.length ∧ ps.length ≤ 8) (hf : Few 40 ps) (hg : allap ps ps.length = true ∧ 0 < areaN ps) (ha : a < ps.length) :
    (chkF ps = 0 ∧ chkF (rotL ps a).reverse = 0) ∧ ((twF ps 1 0 = areaN ps ∧ twF (rotL ps a) 1 0 = areaN ps ∧ twF (rotL ps a).reverse 1 0 = -areaN ps) ∧ areaN ps ≤ 51200) := by
  have h1 := allap_rot ha hl.1 hg.1
  have l1 := rotL_len (ps := ps) (a := a) (by omega)
  have f1 := few_rot (a := a) (by decide) hf
  have f2 := few_rev (by decide) f1
  have l2 : (rotL ps a).reverse.length = ps.length := by rw [List.length_reverse, l1]
  refine ⟨⟨chk_of hl.1 (by omega) (few_nok (by decide) hf) hg.1, chk_of (by omega) (by omega) (few_nok (by decide) f2) (allap_rev (by omega) h1)⟩, ⟨(twF_area hf hl.2).1, ?_, ?_⟩, (twF_area hf hl.2).2.2⟩
  · rw [(twF_area f1 (by omega)).1, area_rot ha]
  · rw [(twF_area f2 (by omega)).1, area_rev (by omega), area_rot ha]
theorem norms_of (hl : 3 ≤ ps.length ∧ ps.length ≤ 8) (hf : Few 40 ps) (hg : allap ps ps.length = true ∧ 0 < areaN ps) (ha : a < ps.length) (hm : m < ps.length) (hk : k < ps.length) (hkm : (a + k) % ps.length = m) :
    nrmL ps m = rotL ps m ∧ nrmL (rotL ps a) k = rotL ps m ∧ nrmL (rotL ps a).reverse (ps.length - 1 - k) = rotL ps m ∧ nrmL (rotL ps m) 0 = rotL ps m := by
  have r := rings_of hl hf hg ha
  have r2 := rings_of hl hf hg hm
  have l1 := rotL_len (ps := ps) (a := a) (by omega)
  refine ⟨nrm_pl (by omega), ?_, ?_, ?_⟩
  · rw [nrm_pl (by omega), rot_rot ha hk hkm]
  · rw [nrm_rev (q := k) (by omega) (by rw [List.length_reverse, l1]; omega), List.reverse_reverse, rot_rot ha hk hkm]
  · rw [nrm_pl (by omega), rot_zero]
theorem diffs_of (hl : 3 ≤ ps.length ∧ ps.length ≤ 8) (hf : Few 40 ps) (hg : allap ps ps.length = true ∧ 0 < areaN ps) (ha : a < ps.length) : Diff ps ∧ Diff (rotL ps a) ∧ Diff (rotL ps a).reverse := by
  have d := (chk_diff (rings_of hl hf hg ha).1.1).2
  exact ⟨d, diff_rot ha d, diff_rev (diff_rot ha d)⟩
theorem rot_first (hm : m < ps.length) : (rotL ps m).getD 0 (0, 0) = ps.getD m (0, 0) := by rw [rotL_at hm (by omega), Nat.add_zero, Nat.mod_eq_of_lt hm]
theorem least_zero (hm : m < ps.length) (h : Least ps m) : Least (rotL ps m) 0 := by
  intro j hj
  rw [rotL_len (by omega)] at hj
  rw [rot_first hm, rotL_at hm hj]
  exact h _ (Nat.mod_lt _ (by omega))
end
end Go.Proofs.Ytigllakcfdoagaa.Am.Sp

