import Derived.Test.YtigllakcfdoagaaSp1
namespace Go.Proofs.Ytigllakcfdoagaa.Am.Sp
theorem par_pos {a b c d : Int} (h1 : 0 < b) (h2 : 0 < d) (h : a * d = b * c) : 0 < a * c + b * d := by
  have e1 : b * (a * c) = a * a * d := by grind
  have e2 : 0 ≤ a * a * d := Int.mul_nonneg (by rcases Int.le_total 0 a with q | q; exact Int.mul_nonneg q q; exact Int.mul_nonneg_of_nonpos_of_nonpos q q) (by omega)
  have e3 : 0 ≤ a * c := by
    rcases Int.lt_or_le (a * c) 0 with q | q
    · have := Int.mul_neg_of_pos_of_neg h1 q; omega
    · exact q
  have e4 := Int.mul_pos h1 h2
  omega
theorem par_neg {a b c d : Int} (h1 : 0 < b) (h2 : d < 0) (h : a * d = b * c) : a * c + b * d < 0 := by
  have := par_pos (a := a) (b := b) (c := -c) (d := -d) h1 (by omega) (by grind)
  grind
theorem dot_dir {dx dy e_x e_y : Int} (hc : crs 0 0 dx dy e_x e_y = 0) (hd : half dx dy ≠ 0) (he : half e_x e_y ≠ 0) : (half dx dy = half e_x e_y → 0 < dot 0 0 dx dy e_x e_y) ∧ (half dx dy ≠ half e_x e_y → dot 0 0 dx dy e_x e_y < 0) := by
  unfold crs at hc
  unfold dot
  simp only [Int.sub_zero] at hc ⊢
  have hc' : dx * e_y = dy * e_x := by omega
  rcases half_cases dx dy with ⟨h, _⟩ | ⟨h1, h2⟩ | ⟨h1, h2⟩
  · exact absurd h hd
  all_goals rcases half_cases e_x e_y with ⟨g, _⟩ | ⟨g1, g2⟩ | ⟨g1, g2⟩
  all_goals first | exact absurd g he | skip
  all_goals rw [h1, g1]
  · refine ⟨fun _ => ?_, fun q => absurd rfl q⟩
    rcases h2 with h2 | ⟨h2, h3⟩
    · rcases g2 with g2 | ⟨g2, g3⟩
      · exact par_pos h2 g2 hc'
      · subst g2; rw [Int.mul_zero] at hc'; have := Int.mul_pos h2 g3; omega
    · subst h2
      rw [Int.zero_mul] at hc' ⊢
      rcases g2 with g2 | ⟨g2, g3⟩
      · have := Int.mul_pos h3 g2; omega
      · have := Int.mul_pos h3 g3; omega
  · refine ⟨fun q => by omega, fun _ => ?_⟩
    rcases h2 with h2 | ⟨h2, h3⟩
    · rcases g2 with g2 | ⟨g2, g3⟩
      · exact par_neg h2 g2 hc'
      · subst g2; rw [Int.mul_zero] at hc'; have := Int.mul_neg_of_pos_of_neg h2 g3; omega
    · subst h2
      rw [Int.zero_mul] at hc' ⊢
      rcases g2 with g2 | ⟨g2, g3⟩
      · have := Int.mul_neg_of_pos_of_neg h3 g2; omega
      · have := Int.mul_neg_of_pos_of_neg h3 g3; omega
  · refine ⟨fun q => by omega, fun _ => ?_⟩
    rcases h2 with h2 | ⟨h2, h3⟩
    · rcases g2 with g2 | ⟨g2, g3⟩
      · have := par_neg (a := e_x) (b := e_y) (c := dx) (d := dy) g2 h2 (by grind); grind
      · subst g2; rw [Int.mul_zero] at hc'; have := Int.mul_neg_of_neg_of_pos h2 g3; omega
    · subst h2
      rw [Int.zero_mul] at hc' ⊢
      rcases g2 with g2 | ⟨g2, g3⟩
      · have := Int.mul_neg_of_neg_of_pos h3 g2; omega
      · have := Int.mul_neg_of_neg_of_pos h3 g3; omega
  · refine ⟨fun _ => ?_, fun q => absurd rfl q⟩
    rcases h2 with h2 | ⟨h2, h3⟩
    · rcases g2 with g2 | ⟨g2, g3⟩
      · have := par_pos (a := -dx) (b := -dy) (c := -e_x) (d := -e_y) (by omega) (by omega) (by grind); grind
      · subst g2; rw [Int.mul_zero] at hc'; have := Int.mul_pos_of_neg_of_neg h2 g3; omega
    · subst h2
      rw [Int.zero_mul] at hc' ⊢
      rcases g2 with g2 | ⟨g2, g3⟩
      · have := Int.mul_pos_of_neg_of_neg h3 g2; omega
      · have := Int.mul_pos_of_neg_of_neg h3 g3; omega
theorem half_zero (x y : Int) : half x y = 0 ↔ (x = 0 ∧ y = 0) := by have := half_cases x y; omega
theorem angle_zero (dx dy e_x e_y : Int) : angle dx dy e_x e_y = 0 ↔ ((dx = 0 ∧ dy = 0 ∧ e_x = 0 ∧ e_y = 0) ∨ (¬ (dx = 0 ∧ dy = 0) ∧ ¬ (e_x = 0 ∧ e_y = 0) ∧ crs 0 0 dx dy e_x e_y = 0 ∧ 0 < dot 0 0 dx dy e_x e_y)) := by
  have zd := half_zero dx dy
  have ze := half_zero e_x e_y
  have key : ¬ (dx = 0 ∧ dy = 0) → ¬ (e_x = 0 ∧ e_y = 0) → crs 0 0 dx dy e_x e_y = 0 → _ := fun a b c => dot_dir c (by omega) (by omega)
  by_cases h : half dx dy = half e_x e_y
  · rw [angle_same h, cmp_zero]
    have hcr : crs 0 0 dx dy e_x e_y = dx * e_y - dy * e_x := by unfold crs; simp only [Int.sub_zero]
    by_cases hz : dx = 0 ∧ dy = 0
    · obtain ⟨rfl, rfl⟩ := hz
      have : e_x = 0 ∧ e_y = 0 := by omega
      obtain ⟨rfl, rfl⟩ := this
      simp
    · have hz' : ¬ (e_x = 0 ∧ e_y = 0) := by omega
      constructor
      · intro q
        have hc : crs 0 0 dx dy e_x e_y = 0 := by omega
        exact .inr ⟨hz, hz', hc, (key hz hz' hc).1 h⟩
      · rintro (q | ⟨_, _, q, _⟩) <;> omega
  · rw [angle_diff h, cmp_zero]
    constructor
    · intro q; exact absurd q h
    · rintro (q | ⟨q1, q2, q3, q4⟩)
      · omega
      · have := (key q1 q2 q3).2 h; omega
theorem mul_le {a b c : Int} (h : a ≤ b) (hc : 0 ≤ c) : c * a ≤ c * b := Int.mul_le_mul_of_nonneg_left h hc
theorem up_trans {a b c d e f : Int} (h1 : 0 ≤ b) (h2 : 0 ≤ d) (h3 : 0 ≤ f) (hd : 0 < b ∨ (b = 0 ∧ 0 < a)) (he : 0 < d ∨ (d = 0 ∧ 0 < c))
    (p : b * c ≤ a * d) (q : d * e ≤ c * f) : b * e ≤ a * f := by
  rcases he with he | ⟨he, hc⟩
  · have s1 := mul_le q h1
    have s2 := mul_le p h3
    have : d * (b * e) ≤ d * (a * f) := by grind
    rcases Int.lt_or_le (a * f) (b * e) with g | g
    · have := Int.mul_lt_mul_of_pos_left g he; omega
    · exact g
  · subst he
    rw [Int.mul_zero] at p
    rcases hd with hd | ⟨hd, ha⟩
    · have := Int.mul_pos hd hc; omega
    · subst hd
      rw [Int.zero_mul]; exact Int.mul_nonneg (by omega) h3
theorem angle_trans (dx dy e_x e_y fx fy : Int) : angle dx dy e_x e_y ≤ 0 → angle e_x e_y fx fy ≤ 0 → angle dx dy fx fy ≤ 0 := by
  intro p q
  by_cases h1 : half dx dy = half e_x e_y
  · by_cases h2 : half e_x e_y = half fx fy
    · rw [angle_same h1, cmp_le] at p
      rw [angle_same h2, cmp_le] at q
      rw [angle_same (h1.trans h2), cmp_le]
      rcases half_cases dx dy with ⟨a, b⟩ | ⟨a, b⟩ | ⟨a, b⟩
      · rw [b.1, b.2]; simp
      · rcases half_cases e_x e_y with ⟨a2, b2⟩ | ⟨a2, b2⟩ | ⟨a2, b2⟩
        · omega
        · rcases half_cases fx fy with ⟨a3, b3⟩ | ⟨a3, b3⟩ | ⟨a3, b3⟩
          · omega
          · exact up_trans (by omega) (by omega) (by omega) b b2 p q
          · omega
        · omega
      · rcases half_cases e_x e_y with ⟨a2, b2⟩ | ⟨a2, b2⟩ | ⟨a2, b2⟩
        · omega
        · omega
        · rcases half_cases fx fy with ⟨a3, b3⟩ | ⟨a3, b3⟩ | ⟨a3, b3⟩
          · omega
          · omega
          · have := up_trans (a := -dx) (b := -dy) (c := -e_x) (d := -e_y) (e := -fx) (f := -fy) (by omega) (by omega) (by omega) (by omega) (by omega) (by grind) (by grind)
            grind
    · rw [angle_diff h2, cmp_le] at q
      rw [angle_diff (by omega), cmp_le]; omega
  · rw [angle_diff h1, cmp_le] at p
    by_cases h2 : half e_x e_y = half fx fy
    · rw [angle_diff (by omega), cmp_le]; omega
    · rw [angle_diff h2, cmp_le] at q
      rw [angle_diff (by omega), cmp_le]; omega
theorem angle_quarter (dx dy e_x e_y : Int) : ¬ (dy < 0 ∨ e_y < 0 ∨ (dx < 0 ∧ dy = 0) ∨ (e_x < 0 ∧ e_y = 0)) → angle (-dy) dx (-e_y) e_x = angle dx dy e_x e_y := by
  intro h
  have hd := half_cases dx dy
  have he := half_cases e_x e_y
  have hd2 := half_cases (-dy) dx
  have he2 := half_cases (-e_y) e_x
  by_cases z : half dx dy = half e_x e_y
  · by_cases z0 : half dx dy = 0
    · have : dx = 0 ∧ dy = 0 := by omega
      have : e_x = 0 ∧ e_y = 0 := by omega
      have e1 : half (-dy) dx = half (-e_y) e_x := by omega
      rw [angle_same z, angle_same e1, show dx = 0 by omega, show dy = 0 by omega]
      simp
    · rw [angle_same z]
      by_cases z2 : half (-dy) dx = half (-e_y) e_x
      · rw [angle_same z2]
        unfold cmp
        have e1 : dx * -e_y = -(dx * e_y) := by grind
        have e2 : -dy * e_x = -(dy * e_x) := by grind
        rw [e1, e2]
        (repeat' split) <;> omega
      · rw [angle_diff z2]
        by_cases s : 0 < dx
        · have hx : e_x ≤ 0 := by omega
          have hy : 0 < e_y := by omega
          have p1 := Int.mul_pos s hy
          have p2 : dy * e_x ≤ 0 := Int.mul_nonpos_of_nonneg_of_nonpos (by omega) hx
          have : half (-dy) dx = 1 := by omega
          have : half (-e_y) e_x = 2 := by omega
          unfold cmp
          (repeat' split) <;> omega
        · have hx : 0 < e_x := by omega
          have hy : 0 < dy := by omega
          have p1 := Int.mul_pos hy hx
          have p2 : dx * e_y ≤ 0 := Int.mul_nonpos_of_nonpos_of_nonneg (by omega) (by omega)
          have : half (-dy) dx = 2 := by omega
          have : half (-e_y) e_x = 1 := by omega
          unfold cmp
          (repeat' split) <;> omega
  · rw [angle_diff z]
    by_cases z0 : half dx dy = 0
    · rw [angle_diff (by omega)]
      unfold cmp
      (repeat' split) <;> omega
    · rw [angle_diff (by omega)]
      unfold cmp
      (repeat' split) <;> omega
end Go.Proofs.Ytigllakcfdoagaa.Am.Sp
