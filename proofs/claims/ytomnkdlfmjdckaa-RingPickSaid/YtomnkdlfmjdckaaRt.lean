import Derived.Test.YtomnkdlfmjdckaaRg9
set_option linter.unusedVariables false
set_option linter.unusedSimpArgs false
namespace Go.Proofs.Ytomnkdlfmjdckaa.Am.Sp
open Go
/-! Rings moved, checked, least corners -/
theorem has2_move (dx dy : Int) (l : List (Int × Int)) (px py : Int) : has2 (l.map (move2 (dx, dy))) (px + dx) (py + dy) = has2 l px py := by
  unfold has2
  rw [List.any_map]
  congr 1
  funext z
  simp only [Function.comp, move2]
  rw [Bool.eq_iff_iff]; simp only [Bool.and_true, Bool.and_eq_true, beq_iff_eq]
  omega
theorem addp_move (dx dy : Int) (l : List (Int × Int)) (px py qx qy rx ry : Int) : addp (l.map (move2 (dx, dy))) (px + dx) (py + dy) (qx + dx) (qy + dy) (rx + dx) (ry + dy) = (addp l px py qx qy rx ry).map (move2 (dx, dy)) := by
  have e : addb (l.map (move2 (dx, dy))) (px + dx) (py + dy) (qx + dx) (qy + dy) (rx + dx) (ry + dy) = addb l px py qx qy rx ry := by
    unfold addb; rw [has2_move]; congr 1; exact onb_move2 (dx, dy) (qx, qy) (rx, ry) (px, py)
  unfold addp; rw [e]
  split
  · rw [List.map_append]; rfl
  · rfl
theorem meetN_move (dx dy ax ay bx b_y cx cy ex ey : Int) : meetN (ax + dx) (ay + dy) (bx + dx) (b_y + dy) (cx + dx) (cy + dy) (ex + dx) (ey + dy) = meetN ax ay bx b_y cx cy ex ey := by
  have hs : shr (ax + dx) (ay + dy) (bx + dx) (b_y + dy) (cx + dx) (cy + dy) (ex + dx) (ey + dy) = (shr ax ay bx b_y cx cy ex ey).map (move2 (dx, dy)) := by
    unfold shr
    rw [← addp_move, ← addp_move, ← addp_move, ← addp_move]; rfl
  unfold meetN
  rw [hs, List.length_map]
  have hp : prp (ax + dx) (ay + dy) (bx + dx) (b_y + dy) (cx + dx) (cy + dy) (ex + dx) (ey + dy) = prp ax ay bx b_y cx cy ex ey := by
    unfold prp; rw [← crs_move, ← crs_move, ← crs_move, ← crs_move]
  rw [hp]
theorem cA_move {ps : List (Int × Int)} {dx dy : Int} {m : Int} (hm : m ≤ 1000) (hf : Few m ps) (hx : -1000 ≤ dx ∧ dx ≤ 1000) (hy : -1000 ≤ dy ∧ dy ≤ 1000) {i : Nat} (hi : i < ps.length) : cA (ps.map (move2 (dx, dy))) i = cA ps i + dx ∧ cB (ps.map (move2 (dx, dy))) i = cB ps i + dy := by
  unfold cA cB; rw [getD_map hi]
  have := hf i
  simp only [move2]
  rw [lim_id (by omega) (by omega), lim_id (by omega) (by omega), lim_id (by omega) (by omega), lim_id (by omega) (by omega)]; exact ⟨rfl, rfl⟩
theorem eqP_move {ps : List (Int × Int)} {d : Int × Int} {i j : Nat} (hi : i < ps.length) (hj : j < ps.length) : eqP (ps.map (move2 d)) i j = eqP ps i j := by
  unfold eqP gx gy
  rw [getD_map hi, getD_map hj, Bool.eq_iff_iff]
  simp only [move2, Bool.and_true, Bool.and_eq_true, beq_iff_eq]; omega
theorem allap_move {ps : List (Int × Int)} {dx dy : Int} {m : Int} (hm : m ≤ 1000) (hf : Few m ps) (hx : -1000 ≤ dx ∧ dx ≤ 1000) (hy : -1000 ≤ dy ∧ dy ≤ 1000) (hn : 3 ≤ ps.length) (h : allap ps ps.length = true) : allap (ps.map (move2 (dx, dy))) (ps.map (move2 (dx, dy))).length = true := by
  rw [allap_iff (by simpa using hn)]
  rw [allap_iff hn] at h
  rw [List.length_map]
  intro i k hi hk hne
  have o := h i k hi hk hne
  have mi := Nat.mod_lt (i + 1) (show 0 < ps.length by omega)
  have mk := Nat.mod_lt (k + 1) (show 0 < ps.length by omega)
  unfold okE at *
  rw [List.length_map]
  refine ⟨⟨by rw [eqP_move hi mi]; exact o.1.1, by rw [eqP_move hk mk]; exact o.1.2⟩, ?_⟩
  rw [← o.2]
  unfold mnE
  have c := fun {j : Nat} (hj : j < ps.length) => cA_move (dx := dx) (dy := dy) hm hf hx hy hj
  rw [(c hi).1, (c hi).2, (c mi).1, (c mi).2, (c hk).1, (c hk).2, (c mk).1, (c mk).2, meetN_move]
theorem twF_move {ps : List (Int × Int)} {dx dy : Int} {m : Int} (hm : m ≤ 1000) (hf : Few m ps) (hx : -1000 ≤ dx ∧ dx ≤ 1000) (hy : -1000 ≤ dy ∧ dy ≤ 1000) (h0 : 1 ≤ ps.length) : twF (ps.map (move2 (dx, dy))) 1 0 = twF ps 1 0 := by
  refine twF_congr (by simp) (fun k hk => ?_) (ps.length - 1) 1 0 (by simp; omega)
  rw [List.length_map] at hk
  have c := fun {j : Nat} (hj : j < ps.length) => cA_move (dx := dx) (dy := dy) hm hf hx hy hj
  rw [(c (show 0 < ps.length by omega)).1, (c (show 0 < ps.length by omega)).2, (c (show k < ps.length by omega)).1, (c (show k < ps.length by omega)).2, (c hk).1, (c hk).2, ← crs_move]
theorem few_le {m k : Int} {ps : List (Int × Int)} (h : Few m ps) (hk : m ≤ k) : Few k ps := fun i => by have := h i; omega
/-! ### the check, the normal form -/
theorem few_nok {m : Int} {ps : List (Int × Int)} (hm : m ≤ 1048576) (h : Few m ps) : ps.any nok = false := by
  rw [List.any_eq_false]
  intro q hq
  have := few_mem h hq
  unfold nok
  rw [(okb_iff q.1 q.2).2 (by omega)]; simp
theorem chk_of {ps : List (Int × Int)} (h1 : 3 ≤ ps.length) (h2 : ps.length ≤ 200) (h3 : ps.any nok = false) (h4 : allap ps ps.length = true) : chkF ps = 0 :=
  chk_0 (decide_eq_false (by omega)) (decide_eq_false (by omega)) h3 rfl h4
theorem few_rot {m : Int} {ps : List (Int × Int)} {a : Nat} (hm : 0 ≤ m) (h : Few m ps) : Few m (rotL ps a) := few_of hm fun q hq => by
  unfold rotL at hq
  rcases List.mem_append.1 hq with k | k
  · exact few_mem h (List.mem_of_mem_drop k)
  · exact few_mem h (List.mem_of_mem_take k)
theorem few_rev {m : Int} {ps : List (Int × Int)} (hm : 0 ≤ m) (h : Few m ps) : Few m ps.reverse := few_of hm fun q hq => few_mem h (List.mem_reverse.1 hq)
theorem diff_rot {ps : List (Int × Int)} {a : Nat} (ha : a < ps.length) (h : Diff ps) : Diff (rotL ps a) := by
  intro i j hij hj e
  rw [rotL_len (by omega)] at hj
  rw [rotL_at ha (by omega), rotL_at ha hj] at e
  have := diff_eq h (Nat.mod_lt _ (by omega)) (Nat.mod_lt _ (by omega)) e
  by_cases c1 : a + i < ps.length <;> by_cases c2 : a + j < ps.length
  · rw [Nat.mod_eq_of_lt c1, Nat.mod_eq_of_lt c2] at this; omega
  · rw [Nat.mod_eq_of_lt c1, Nat.mod_eq_sub_mod (by omega), Nat.mod_eq_of_lt (by omega)] at this; omega
  · omega
  · rw [Nat.mod_eq_sub_mod (by omega), Nat.mod_eq_of_lt (by omega), Nat.mod_eq_sub_mod (a := a + j) (by omega), Nat.mod_eq_of_lt (by omega)] at this; omega
/-- the least corner stays the least one -/
abbrev Least (ps : List (Int × Int)) (m : Nat) : Prop := ∀ j, j < ps.length → befP (ps.getD j (0, 0)) (ps.getD m (0, 0)) = false
theorem least_rot {ps : List (Int × Int)} {a m : Nat} (ha : a < ps.length) (hm : m < ps.length) (h : Least ps m) : ∃ k, k < ps.length ∧ (a + k) % ps.length = m ∧ Least (rotL ps a) k := by
  have hk : ∃ k, k < ps.length ∧ (a + k) % ps.length = m := by
    by_cases c : a ≤ m
    · exact ⟨m - a, by omega, by rw [Nat.mod_eq_of_lt (by omega)]; omega⟩
    · exact ⟨m + ps.length - a, by omega, by rw [show a + (m + ps.length - a) = m + ps.length by omega, Nat.add_mod_right, Nat.mod_eq_of_lt hm]⟩
  obtain ⟨k, k1, k2⟩ := hk
  refine ⟨k, k1, k2, fun j hj => ?_⟩
  rw [rotL_len (by omega)] at hj
  rw [rotL_at ha hj, rotL_at ha k1, k2]
  exact h _ (Nat.mod_lt _ (by omega))
theorem least_rev {ps : List (Int × Int)} {m : Nat} (hm : m < ps.length) (h : Least ps m) : Least ps.reverse (ps.length - 1 - m) := by
  intro j hj
  rw [List.length_reverse] at hj
  rw [rev_at hj, rev_at (by omega), show ps.length - 1 - (ps.length - 1 - m) = m by omega]
  exact h _ (by omega)
theorem rot_rot {ps : List (Int × Int)} {a k m : Nat} (ha : a < ps.length) (hk : k < ps.length) (h : (a + k) % ps.length = m) : rotL (rotL ps a) k = rotL ps m := by
  have hl := rotL_len (ps := ps) (a := a) (by omega)
  have hm : m < ps.length := h ▸ Nat.mod_lt _ (by omega)
  refine ext_getD (by rw [rotL_len (by omega), hl, rotL_len (by omega)]) fun i hi => ?_
  rw [rotL_len (by omega), hl] at hi
  rw [rotL_at (by omega) (by omega), hl, rotL_at ha (Nat.mod_lt _ (by omega)), rotL_at hm hi, ← h]
  congr 1
  rw [Nat.add_mod_mod, Nat.mod_add_mod, Nat.add_assoc]
theorem rot_zero (ps : List (Int × Int)) : rotL ps 0 = ps := by unfold rotL; simp
end Go.Proofs.Ytomnkdlfmjdckaa.Am.Sp

