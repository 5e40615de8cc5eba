import Derived.Test.YtigllakcfdoagaaSp2
namespace Go.Proofs.Ytigllakcfdoagaa.Am.Sp
def onb (ax ay bx b_y px py : Int) : Bool := cmp (crs ax ay bx b_y px py) 0 == 0 && decide (dot px py ax ay bx b_y ≤ 0)
theorem crs_cyc (ax ay bx b_y cx cy : Int) : crs ax ay bx b_y cx cy = crs bx b_y cx cy ax ay := by unfold crs; grind
theorem crs_anti (ax ay bx b_y cx cy : Int) : crs ax ay bx b_y cx cy = 0 - crs bx b_y ax ay cx cy := by unfold crs; grind
theorem crs_move (ax ay bx b_y cx cy gx gy : Int) : crs ax ay bx b_y cx cy = crs (ax + gx) (ay + gy) (bx + gx) (b_y + gy) (cx + gx) (cy + gy) := by
  unfold crs
  rw [show bx + gx - (ax + gx) = bx - ax by omega, show cy + gy - (ay + gy) = cy - ay by omega, show b_y + gy - (ay + gy) = b_y - ay by omega, show cx + gx - (ax + gx) = cx - ax by omega]
theorem dot_comm (ax ay bx b_y cx cy : Int) : dot ax ay bx b_y cx cy = dot ax ay cx cy bx b_y := by unfold dot; grind
theorem sq_comm (ax ay bx b_y : Int) : dot ax ay bx b_y bx b_y = dot bx b_y ax ay ax ay := by unfold dot; grind
theorem lagrange (ax ay bx b_y cx cy : Int) : crs ax ay bx b_y cx cy * crs ax ay bx b_y cx cy + dot ax ay bx b_y cx cy * dot ax ay bx b_y cx cy = dot ax ay bx b_y bx b_y * dot ax ay cx cy cx cy := by
  unfold crs dot
  generalize bx - ax = u; generalize b_y - ay = v; generalize cx - ax = s; generalize cy - ay = t
  grind
theorem crs_bd {ax ay bx b_y cx cy M : Int} (_hM : 0 ≤ M) (h : (-M ≤ ax ∧ ax ≤ M) ∧ (-M ≤ ay ∧ ay ≤ M) ∧ (-M ≤ bx ∧ bx ≤ M) ∧ (-M ≤ b_y ∧ b_y ≤ M) ∧ (-M ≤ cx ∧ cx ≤ M) ∧ (-M ≤ cy ∧ cy ≤ M)) :
    (-(2 * (2 * M * (2 * M))) ≤ crs ax ay bx b_y cx cy ∧ crs ax ay bx b_y cx cy ≤ 2 * (2 * M * (2 * M))) ∧ (-(2 * (2 * M * (2 * M))) ≤ dot ax ay bx b_y cx cy ∧ dot ax ay bx b_y cx cy ≤ 2 * (2 * M * (2 * M))) := by
  obtain ⟨h1, h2, h3, h4, h5, h6⟩ := h
  unfold crs dot
  have p1 := mul_bd (a := bx - ax) (b := cy - ay) (A := 2 * M) (B := 2 * M) (by omega) (by omega) (by omega) (by omega)
  have p2 := mul_bd (a := b_y - ay) (b := cx - ax) (A := 2 * M) (B := 2 * M) (by omega) (by omega) (by omega) (by omega)
  have p3 := mul_bd (a := bx - ax) (b := cx - ax) (A := 2 * M) (B := 2 * M) (by omega) (by omega) (by omega) (by omega)
  have p4 := mul_bd (a := b_y - ay) (b := cy - ay) (A := 2 * M) (B := 2 * M) (by omega) (by omega) (by omega) (by omega)
  omega
theorem sqr_nonneg (a : Int) : 0 ≤ a * a := by
  rcases Int.le_total 0 a with q | q
  · exact Int.mul_nonneg q q
  · exact Int.mul_nonneg_of_nonpos_of_nonpos q q
theorem dot_nonneg (ax ay bx b_y : Int) : 0 ≤ dot ax ay bx b_y bx b_y := by
  unfold dot
  have := sqr_nonneg (bx - ax); have := sqr_nonneg (b_y - ay); omega
theorem pcmp_anti (ax ay bx b_y : Int) : pcmp ax ay bx b_y = 0 - pcmp bx b_y ax ay := by
  unfold pcmp cmp
  (repeat' split) <;> simp_all <;> omega
theorem pcmp_zero (ax ay bx b_y : Int) : (pcmp ax ay bx b_y == 0) = ((ax == bx) && ((ay == b_y) && true)) := by
  by_cases h1 : ax = bx
  · by_cases h2 : ay = b_y
    · subst h1 h2; simp [pcmp, cmp]
    · subst h1
      have e : (ay == b_y) = false := by simpa using h2
      have e2 : cmp ay b_y ≠ 0 := fun q => h2 ((cmp_zero _ _).1 q)
      have e3 : (cmp ax ax != 0) = true ↔ False := by simp [cmp]
      have e4 : pcmp ax ay ax b_y = cmp ay b_y := by unfold pcmp; rw [if_neg (fun q => e3.1 q)]
      rw [e4, e]; simpa using e2
  · have : (ax == bx) = false := by simpa using h1
    rw [this]
    simp only [Bool.false_and, beq_eq_false_iff_ne, ne_eq]
    have e : (cmp ax bx != 0) = true := by
      rw [bne_iff_ne]; intro q; exact h1 ((cmp_zero _ _).1 q)
    unfold pcmp
    rw [if_pos e]
    intro q; exact h1 ((cmp_zero _ _).1 q)
theorem onb_iff (ax ay bx b_y px py : Int) : onb ax ay bx b_y px py = true ↔ crs ax ay bx b_y px py = 0 ∧ dot px py ax ay bx b_y ≤ 0 := by
  unfold onb
  rw [Bool.and_eq_true, beq_iff_eq, cmp_zero, decide_eq_true_iff]
theorem onb_comm (ax ay bx b_y px py : Int) : onb ax ay bx b_y px py = onb bx b_y ax ay px py := by
  rw [Bool.eq_iff_iff, onb_iff, onb_iff, crs_anti ax, dot_comm px]
  omega
theorem onb_crs {ax ay bx b_y px py : Int} (h : onb ax ay bx b_y px py = true) : crs ax ay bx b_y px py = 0 := ((onb_iff ..).1 h).1
theorem onb_near {ax ay bx b_y px py : Int} (h : onb ax ay bx b_y px py = true) : dot ax ay px py px py ≤ dot ax ay bx b_y bx b_y := by
  have h2 := ((onb_iff ..).1 h).2
  unfold dot at h2 ⊢
  have e1 := sqr_nonneg (bx - ax - (px - ax)); have e2 := sqr_nonneg (b_y - ay - (py - ay))
  grind
theorem onb_a (ax ay bx b_y : Int) : onb ax ay bx b_y ax ay = true := by
  rw [onb_iff]; unfold crs dot; grind
theorem onb_b (ax ay bx b_y : Int) : onb ax ay bx b_y bx b_y = true := by
  rw [onb_iff]; unfold crs dot; grind
/-- between, as the document says it -/
def btw (n a b : Int) : Bool := (decide (a ≤ n) && decide (n ≤ b)) || (decide (b ≤ n) && decide (n ≤ a))
theorem btw_iff (n a b : Int) : btw n a b = true ↔ (a ≤ n ∧ n ≤ b) ∨ (b ≤ n ∧ n ≤ a) := by unfold btw; simp
theorem btw_mul {n a b : Int} : btw n a b = true ↔ (a - n) * (b - n) ≤ 0 := by
  rw [btw_iff]
  constructor
  · rintro (⟨h1, h2⟩ | ⟨h1, h2⟩)
    · exact Int.mul_nonpos_of_nonpos_of_nonneg (by omega) (by omega)
    · exact Int.mul_nonpos_of_nonneg_of_nonpos (by omega) (by omega)
  · intro h
    rcases Int.lt_or_le n a with h1 | h1
    · rcases Int.lt_or_le n b with h2 | h2
      · have := Int.mul_pos (show 0 < a - n by omega) (show 0 < b - n by omega); omega
      · omega
    · rcases Int.lt_or_le n b with h2 | h2
      · omega
      · rcases Int.lt_or_le a n with h3 | h3
        · rcases Int.lt_or_le b n with h4 | h4
          · have := Int.mul_pos_of_neg_of_neg (show a - n < 0 by omega) (show b - n < 0 by omega); omega
          · omega
        · omega
theorem lies_on (ax ay bx b_y px py : Int) : ((crs ax ay bx b_y px py == 0) && (btw px ax bx && btw py ay b_y)) = onb ax ay bx b_y px py := by
  rw [Bool.eq_iff_iff, onb_iff, Bool.and_eq_true, beq_iff_eq, Bool.and_eq_true, btw_mul, btw_mul]
  constructor
  · rintro ⟨h1, h2, h3⟩; refine ⟨h1, ?_⟩; unfold dot; omega
  · rintro ⟨h1, h2⟩
    refine ⟨h1, ?_⟩
    unfold crs at h1
    unfold dot at h2
    generalize hu : ax - px = u at *
    generalize hv : ay - py = v at *
    generalize hs : bx - px = s at *
    generalize ht : b_y - py = t at *
    have h1' : u * t = v * s := by
      have a1 : bx - ax = s - u := by omega
      have a2 : py - ay = -v := by omega
      have a3 : b_y - ay = t - v := by omega
      have a4 : px - ax = -u := by omega
      rw [a1, a2, a3, a4] at h1
      grind
    have e : (u * s) * (v * t) = (u * t) * (u * t) := by grind
    have e2 := sqr_nonneg (u * t)
    rcases Int.lt_or_le 0 (u * s) with q | q
    · have := Int.mul_neg_of_pos_of_neg q (show v * t < 0 by omega); omega
    · rcases Int.lt_or_le 0 (v * t) with r | r
      · have := Int.mul_neg_of_neg_of_pos (show u * s < 0 by omega) r; omega
      · exact ⟨q, r⟩
theorem crs_shoe (ax ay bx b_y cx cy : Int) : ax * b_y - ay * bx + bx * cy - b_y * cx + cx * ay - cy * ax = crs ax ay bx b_y cx cy := by unfold crs; grind
theorem far_dot (ax ay bx b_y : Int) : (ax - bx) * (ax - bx) + (ay - b_y) * (ay - b_y) = dot ax ay bx b_y bx b_y := by unfold dot; grind
theorem cosines (ax ay bx b_y cx cy : Int) : Int.tdiv (dot ax ay bx b_y bx b_y + dot ax ay cx cy cx cy - dot bx b_y cx cy cx cy) 2 = dot ax ay bx b_y cx cy := by
  rw [show dot ax ay bx b_y bx b_y + dot ax ay cx cy cx cy - dot bx b_y cx cy cx cy = dot ax ay bx b_y cx cy * 2 by unfold dot; grind]
  exact Int.mul_tdiv_cancel _ (by decide)
theorem cmp_sgn (a b : Int) : cmp a b = sgn (a - b) := by unfold cmp sgn; (repeat' split) <;> omega
theorem lim_sgn (a : Int) : lim 1 a = cmp a 0 := by unfold lim cmp; (repeat' split) <;> omega
def quarter (x y : Int) : Int := if x = 0 ∧ y = 0 then 0 else if 0 < x ∧ 0 ≤ y then 1 else if x ≤ 0 ∧ 0 < y then 2 else if x < 0 then 3 else 4
theorem quarter_cases (x y : Int) : (quarter x y = 0 ∧ half x y = 0 ∧ x = 0 ∧ y = 0) ∨ (quarter x y = 1 ∧ half x y = 1 ∧ 0 < x ∧ 0 ≤ y) ∨ (quarter x y = 2 ∧ half x y = 1 ∧ x ≤ 0 ∧ 0 < y) ∨ (quarter x y = 3 ∧ half x y = 2 ∧ x < 0 ∧ y ≤ 0) ∨ (quarter x y = 4 ∧ half x y = 2 ∧ 0 ≤ x ∧ y < 0) := by
  unfold quarter half; (repeat' split) <;> omega
theorem angle_eq {dx dy e_x e_y : Int} (h : quarter dx dy = quarter e_x e_y) : angle dx dy e_x e_y = sgn (dy * e_x - dx * e_y) := by
  rw [angle_same, cmp_sgn]
  rcases quarter_cases dx dy with a | a | a | a | a <;> rcases quarter_cases e_x e_y with b | b | b | b | b <;> omega
theorem angle_ne {dx dy e_x e_y : Int} (h : quarter dx dy ≠ quarter e_x e_y) : angle dx dy e_x e_y = sgn (quarter dx dy - quarter e_x e_y) := by
  by_cases hh : half dx dy = half e_x e_y
  · rw [angle_same hh]
    rcases quarter_cases dx dy with ⟨a, a', a1, a2⟩ | ⟨a, a', a1, a2⟩ | ⟨a, a', a1, a2⟩ | ⟨a, a', a1, a2⟩ | ⟨a, a', a1, a2⟩ <;> rcases quarter_cases e_x e_y with ⟨b, b', b1, b2⟩ | ⟨b, b', b1, b2⟩ | ⟨b, b', b1, b2⟩ | ⟨b, b', b1, b2⟩ | ⟨b, b', b1, b2⟩ <;> (try omega) <;> rw [a, b]
    · have := Int.mul_nonpos_of_nonneg_of_nonpos a2 b1; have := Int.mul_pos a1 b2; unfold cmp sgn; rw [if_pos (by omega)]; rfl
    · have := Int.mul_pos a2 b1; have := Int.mul_nonpos_of_nonpos_of_nonneg a1 b2; unfold cmp sgn; rw [if_neg (by omega), if_pos (by omega)]; rfl
    · have := Int.mul_nonpos_of_nonpos_of_nonneg a2 b1; have := Int.mul_pos_of_neg_of_neg a1 b2; unfold cmp sgn; rw [if_pos (by omega)]; rfl
    · have := Int.mul_pos_of_neg_of_neg a2 b1; have := Int.mul_nonpos_of_nonneg_of_nonpos a1 b2; unfold cmp sgn; rw [if_neg (by omega), if_pos (by omega)]; rfl
  · rw [angle_diff hh]
    rcases quarter_cases dx dy with ⟨a, a', a1, a2⟩ | ⟨a, a', a1, a2⟩ | ⟨a, a', a1, a2⟩ | ⟨a, a', a1, a2⟩ | ⟨a, a', a1, a2⟩ <;> rcases quarter_cases e_x e_y with ⟨b, b', b1, b2⟩ | ⟨b, b', b1, b2⟩ | ⟨b, b', b1, b2⟩ | ⟨b, b', b1, b2⟩ | ⟨b, b', b1, b2⟩ <;> (try omega) <;> rw [a, b, a', b'] <;> decide
theorem quarter_bd (x y : Int) : 0 ≤ quarter x y ∧ quarter x y ≤ 4 := by unfold quarter; (repeat' split) <;> omega
theorem pcmp_form (ax ay bx b_y : Int) : pcmp ax ay bx b_y = if ax < bx then -1 else if bx < ax then 1 else if ay < b_y then -1 else if b_y < ay then 1 else 0 := by
  unfold pcmp
  by_cases h : ax < bx
  · simp [cmp, h]
  · by_cases g : bx < ax
    · simp [cmp, h, g]
    · have : ax = bx := by omega
      subst this
      simp [cmp]
theorem pcmp_bd (ax ay bx b_y : Int) : -1 ≤ pcmp ax ay bx b_y ∧ pcmp ax ay bx b_y ≤ 1 := by rw [pcmp_form]; (repeat' split) <;> omega
end Go.Proofs.Ytigllakcfdoagaa.Am.Sp
