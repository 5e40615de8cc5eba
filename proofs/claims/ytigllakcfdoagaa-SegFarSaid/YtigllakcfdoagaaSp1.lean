namespace Go.Proofs.Ytigllakcfdoagaa.Am.Sp
def lim (m n : Int) : Int := max (-m) (min n m)
def cmp (a b : Int) : Int := if a < b then -1 else if b < a then 1 else 0
def sgn (a : Int) : Int := if a < 0 then -1 else if 0 < a then 1 else 0
theorem lim_bd {m : Int} (hm : 0 ≤ m) (n : Int) : -m ≤ lim m n ∧ lim m n ≤ m := by unfold lim; omega
theorem emod_bd (x : Int) {n : Int} (h : 0 < n) : 0 ≤ x % n ∧ x % n < n := ⟨Int.emod_nonneg x (by omega), Int.emod_lt_of_pos x h⟩
theorem tmod_lo {x n : Int} (hn : 0 < n) : -n < Int.tmod x n := by
  have h1 := Int.tmod_eq_emod (a := x) (b := n)
  have := emod_bd x hn
  split at h1 <;> omega
theorem below_neg {x n : Int} (hn : 0 < n) (h : Int.tmod x n < 0) : Int.tmod x n + n = x % n := by
  have h1 := Int.tmod_eq_emod (a := x) (b := n)
  have := emod_bd x hn
  split at h1 <;> omega
theorem below_pos {x n : Int} (hn : 0 < n) (h : ¬ Int.tmod x n < 0) : Int.tmod x n = x % n := by
  have h1 := Int.tmod_eq_emod (a := x) (b := n)
  have := emod_bd x hn
  split at h1 <;> omega
theorem mul_bd {a b A B : Int} (h1 : -A ≤ a) (h2 : a ≤ A) (h3 : -B ≤ b) (h4 : b ≤ B) : -(A * B) ≤ a * b ∧ a * b ≤ A * B := by
  have hA : 0 ≤ A := by omega
  have hB : 0 ≤ B := by omega
  have e1 : 0 ≤ (A - a) * (B - b) := Int.mul_nonneg (by omega) (by omega)
  have e2 : 0 ≤ (A + a) * (B + b) := Int.mul_nonneg (by omega) (by omega)
  have e3 : 0 ≤ (A - a) * (B + b) := Int.mul_nonneg (by omega) (by omega)
  have e4 : 0 ≤ (A + a) * (B - b) := Int.mul_nonneg (by omega) (by omega)
  constructor <;> grind
def crs (ax ay bx b_y cx cy : Int) : Int := (bx - ax) * (cy - ay) - (b_y - ay) * (cx - ax)
def dot (ax ay bx b_y cx cy : Int) : Int := (bx - ax) * (cx - ax) + (b_y - ay) * (cy - ay)
def pcmp (ax ay bx b_y : Int) : Int := if (cmp ax bx != 0) = true then cmp ax bx else cmp ay b_y
def half (x y : Int) : Int := if x = 0 ∧ y = 0 then 0 else if 0 < y ∨ (y = 0 ∧ 0 < x) then 1 else 2
def angle (dx dy e_x e_y : Int) : Int := if (cmp (half dx dy) (half e_x e_y) != 0) = true then cmp (half dx dy) (half e_x e_y) else cmp (dy * e_x) (dx * e_y)
def In64 (x : Int) : Prop := -9223372036854775808 ≤ x ∧ x ≤ 9223372036854775807
theorem tdiv_in {x n : Int} (h : In64 x) (hn : 1 < n) : -9223372036854775808 ≤ Int.tdiv x n ∧ Int.tdiv x n ≤ 9223372036854775807 := by
  obtain ⟨h1, h2⟩ := h
  have e := Int.mul_tdiv_add_tmod x n
  have l := tmod_lo (x := x) (n := n) (by omega)
  have u : Int.tmod x n < n := Int.tmod_lt_of_pos x (by omega)
  constructor
  · rcases Int.lt_or_le (Int.tdiv x n) (-9223372036854775808) with h | h
    · exfalso
      have : n * Int.tdiv x n ≤ n * (-9223372036854775809) := Int.mul_le_mul_of_nonneg_left (by omega) (by omega)
      omega
    · exact h
  · rcases Int.lt_or_le 9223372036854775807 (Int.tdiv x n) with h | h
    · exfalso
      have : n * 9223372036854775808 ≤ n * Int.tdiv x n := Int.mul_le_mul_of_nonneg_left (by omega) (by omega)
      omega
    · exact h
theorem lim_id {m n : Int} (h1 : -m ≤ n) (h2 : n ≤ m) : lim m n = n := by unfold lim; omega
theorem cmp_anti (a b : Int) : cmp b a = - cmp a b := by unfold cmp; (repeat' split) <;> omega
theorem cmp_zero (a b : Int) : cmp a b = 0 ↔ a = b := by unfold cmp; (repeat' split) <;> omega
theorem cmp_bd (a b : Int) : -1 ≤ cmp a b ∧ cmp a b ≤ 1 := by unfold cmp; (repeat' split) <;> omega
theorem cmp_le (a b : Int) : cmp a b ≤ 0 ↔ a ≤ b := by unfold cmp; (repeat' split) <;> omega
theorem cmp_pos (a b : Int) : 0 < cmp a b ↔ b < a := by unfold cmp; (repeat' split) <;> omega
theorem angle_bd (dx dy e_x e_y : Int) : -1 ≤ angle dx dy e_x e_y ∧ angle dx dy e_x e_y ≤ 1 := by unfold angle; split <;> exact cmp_bd _ _
theorem angle_anti (dx dy e_x e_y : Int) : angle e_x e_y dx dy = - angle dx dy e_x e_y := by
  unfold angle
  have h := cmp_anti (half dx dy) (half e_x e_y)
  have e := cmp_anti (dy * e_x) (dx * e_y)
  rw [show e_y * dx = dx * e_y by rw [Int.mul_comm], show e_x * dy = dy * e_x by rw [Int.mul_comm]]
  by_cases hz : cmp (half dx dy) (half e_x e_y) = 0
  · rw [if_neg (by rw [h, hz]; decide), if_neg (by rw [hz]; decide)]; exact e
  · rw [if_pos (by rw [h]; simp; omega), if_pos (by simpa using hz)]; exact h
theorem angle_same {dx dy e_x e_y : Int} (h : half dx dy = half e_x e_y) : angle dx dy e_x e_y = cmp (dy * e_x) (dx * e_y) := by
  unfold angle
  rw [if_neg]
  rw [(cmp_zero _ _).2 h]; decide
theorem angle_diff {dx dy e_x e_y : Int} (h : half dx dy ≠ half e_x e_y) : angle dx dy e_x e_y = cmp (half dx dy) (half e_x e_y) := by
  unfold angle
  rw [if_pos]
  simpa using fun q => h ((cmp_zero _ _).1 q)
theorem half_cases (x y : Int) : (half x y = 0 ∧ x = 0 ∧ y = 0) ∨ (half x y = 1 ∧ (0 < y ∨ (y = 0 ∧ 0 < x))) ∨ (half x y = 2 ∧ (y < 0 ∨ (y = 0 ∧ x < 0))) := by
  unfold half; (repeat' split) <;> omega
end Go.Proofs.Ytigllakcfdoagaa.Am.Sp
