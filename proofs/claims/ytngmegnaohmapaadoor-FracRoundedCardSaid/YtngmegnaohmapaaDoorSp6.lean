namespace Go.Proofs.YtngmegnaohmapaaDoor.Am.Sp
def lim (m n : Int) : Int := max (-m) (min n m)
def cmp (a b : Int) : Int := if a < b then -1 else if b < a then 1 else 0
def sgn (a : Int) : Int := if a < 0 then -1 else if 0 < a then 1 else 0
theorem lim_bd {m : Int} (hm : 0 ≤ m) (n : Int) : -m ≤ lim m n ∧ lim m n ≤ m := by unfold lim; omega
theorem emod_bd (x : Int) {n : Int} (h : 0 < n) : 0 ≤ x % n ∧ x % n < n := ⟨Int.emod_nonneg x (by omega), Int.emod_lt_of_pos x h⟩
theorem tmod_lo {x n : Int} (hn : 0 < n) : -n < Int.tmod x n := by
  have h1 := Int.tmod_eq_emod (a := x) (b := n)
  have := emod_bd x hn
  split at h1 <;> omega
theorem below_neg {x n : Int} (hn : 0 < n) (h : Int.tmod x n < 0) : Int.tmod x n + n = x % n := by
  have h1 := Int.tmod_eq_emod (a := x) (b := n)
  have := emod_bd x hn
  split at h1 <;> omega
theorem below_pos {x n : Int} (hn : 0 < n) (h : ¬ Int.tmod x n < 0) : Int.tmod x n = x % n := by
  have h1 := Int.tmod_eq_emod (a := x) (b := n)
  have := emod_bd x hn
  split at h1 <;> omega
theorem mul_bd {a b A B : Int} (h1 : -A ≤ a) (h2 : a ≤ A) (h3 : -B ≤ b) (h4 : b ≤ B) : -(A * B) ≤ a * b ∧ a * b ≤ A * B := by
  have hA : 0 ≤ A := by omega
  have hB : 0 ≤ B := by omega
  have e1 : 0 ≤ (A - a) * (B - b) := Int.mul_nonneg (by omega) (by omega)
  have e2 : 0 ≤ (A + a) * (B + b) := Int.mul_nonneg (by omega) (by omega)
  have e3 : 0 ≤ (A - a) * (B + b) := Int.mul_nonneg (by omega) (by omega)
  have e4 : 0 ≤ (A + a) * (B - b) := Int.mul_nonneg (by omega) (by omega)
  constructor <;> grind
def crs (ax ay bx b_y cx cy : Int) : Int := (bx - ax) * (cy - ay) - (b_y - ay) * (cx - ax)
def dot (ax ay bx b_y cx cy : Int) : Int := (bx - ax) * (cx - ax) + (b_y - ay) * (cy - ay)
def pcmp (ax ay bx b_y : Int) : Int := if (cmp ax bx != 0) = true then cmp ax bx else cmp ay b_y
def half (x y : Int) : Int := if x = 0 ∧ y = 0 then 0 else if 0 < y ∨ (y = 0 ∧ 0 < x) then 1 else 2
def angle (dx dy e_x e_y : Int) : Int := if (cmp (half dx dy) (half e_x e_y) != 0) = true then cmp (half dx dy) (half e_x e_y) else cmp (dy * e_x) (dx * e_y)
def In64 (x : Int) : Prop := -9223372036854775808 ≤ x ∧ x ≤ 9223372036854775807
theorem tdiv_in {x n : Int} (h : In64 x) (hn : 1 < n) : -9223372036854775808 ≤ Int.tdiv x n ∧ Int.tdiv x n ≤ 9223372036854775807 := by
  obtain ⟨h1, h2⟩ := h
  have e := Int.mul_tdiv_add_tmod x n
  have l := tmod_lo (x := x) (n := n) (by omega)
  have u : Int.tmod x n < n := Int.tmod_lt_of_pos x (by omega)
  constructor
  · rcases Int.lt_or_le (Int.tdiv x n) (-9223372036854775808) with h | h
    · exfalso
      have : n * Int.tdiv x n ≤ n * (-9223372036854775809) := Int.mul_le_mul_of_nonneg_left (by omega) (by omega)
      omega
    · exact h
  · rcases Int.lt_or_le 9223372036854775807 (Int.tdiv x n) with h | h
    · exfalso
      have : n * 9223372036854775808 ≤ n * Int.tdiv x n := Int.mul_le_mul_of_nonneg_left (by omega) (by omega)
      omega
    · exact h
theorem lim_id {m n : Int} (h1 : -m ≤ n) (h2 : n ≤ m) : lim m n = n := by unfold lim; omega
theorem cmp_anti (a b : Int) : cmp b a = - cmp a b := by unfold cmp; (repeat' split) <;> omega
theorem cmp_zero (a b : Int) : cmp a b = 0 ↔ a = b := by unfold cmp; (repeat' split) <;> omega
theorem cmp_bd (a b : Int) : -1 ≤ cmp a b ∧ cmp a b ≤ 1 := by unfold cmp; (repeat' split) <;> omega
theorem cmp_le (a b : Int) : cmp a b ≤ 0 ↔ a ≤ b := by unfold cmp; (repeat' split) <;> omega
theorem cmp_pos (a b : Int) : 0 < cmp a b ↔ b < a := by unfold cmp; (repeat' split) <;> omega
theorem angle_bd (dx dy e_x e_y : Int) : -1 ≤ angle dx dy e_x e_y ∧ angle dx dy e_x e_y ≤ 1 := by unfold angle; split <;> exact cmp_bd _ _
theorem angle_anti (dx dy e_x e_y : Int) : angle e_x e_y dx dy = - angle dx dy e_x e_y := by
  unfold angle
  have h := cmp_anti (half dx dy) (half e_x e_y)
  have e := cmp_anti (dy * e_x) (dx * e_y)
  rw [show e_y * dx = dx * e_y by rw [Int.mul_comm], show e_x * dy = dy * e_x by rw [Int.mul_comm]]
  by_cases hz : cmp (half dx dy) (half e_x e_y) = 0
  · rw [if_neg (by rw [h, hz]; decide), if_neg (by rw [hz]; decide)]; exact e
  · rw [if_pos (by rw [h]; simp; omega), if_pos (by simpa using hz)]; exact h
theorem angle_same {dx dy e_x e_y : Int} (h : half dx dy = half e_x e_y) : angle dx dy e_x e_y = cmp (dy * e_x) (dx * e_y) := by
  unfold angle
  rw [if_neg]
  rw [(cmp_zero _ _).2 h]; decide
theorem angle_diff {dx dy e_x e_y : Int} (h : half dx dy ≠ half e_x e_y) : angle dx dy e_x e_y = cmp (half dx dy) (half e_x e_y) := by
  unfold angle
  rw [if_pos]
  simpa using fun q => h ((cmp_zero _ _).1 q)
theorem half_cases (x y : Int) : (half x y = 0 ∧ x = 0 ∧ y = 0) ∨ (half x y = 1 ∧ (0 < y ∨ (y = 0 ∧ 0 < x))) ∨ (half x y = 2 ∧ (y < 0 ∨ (y = 0 ∧ x < 0))) := by
  unfold half; (repeat' split) <;> omega
end Go.Proofs.YtngmegnaohmapaaDoor.Am.Sp

namespace Go.Proofs.YtngmegnaohmapaaDoor.Am.Sp
theorem par_pos {a b c d : Int} (h1 : 0 < b) (h2 : 0 < d) (h : a * d = b * c) : 0 < a * c + b * d := by
  have e1 : b * (a * c) = a * a * d := by grind
  have e2 : 0 ≤ a * a * d := Int.mul_nonneg (by rcases Int.le_total 0 a with q | q; exact Int.mul_nonneg q q; exact Int.mul_nonneg_of_nonpos_of_nonpos q q) (by omega)
  have e3 : 0 ≤ a * c := by
    rcases Int.lt_or_le (a * c) 0 with q | q
    · have := Int.mul_neg_of_pos_of_neg h1 q; omega
    · exact q
  have e4 := Int.mul_pos h1 h2
  omega
theorem par_neg {a b c d : Int} (h1 : 0 < b) (h2 : d < 0) (h : a * d = b * c) : a * c + b * d < 0 := by
  have := par_pos (a := a) (b := b) (c := -c) (d := -d) h1 (by omega) (by grind)
  grind
theorem dot_dir {dx dy e_x e_y : Int} (hc : crs 0 0 dx dy e_x e_y = 0) (hd : half dx dy ≠ 0) (he : half e_x e_y ≠ 0) : (half dx dy = half e_x e_y → 0 < dot 0 0 dx dy e_x e_y) ∧ (half dx dy ≠ half e_x e_y → dot 0 0 dx dy e_x e_y < 0) := by
  unfold crs at hc
  unfold dot
  simp only [Int.sub_zero] at hc ⊢
  have hc' : dx * e_y = dy * e_x := by omega
  rcases half_cases dx dy with ⟨h, _⟩ | ⟨h1, h2⟩ | ⟨h1, h2⟩
  · exact absurd h hd
  all_goals rcases half_cases e_x e_y with ⟨g, _⟩ | ⟨g1, g2⟩ | ⟨g1, g2⟩
  all_goals first | exact absurd g he | skip
  all_goals rw [h1, g1]
  · refine ⟨fun _ => ?_, fun q => absurd rfl q⟩
    rcases h2 with h2 | ⟨h2, h3⟩
    · rcases g2 with g2 | ⟨g2, g3⟩
      · exact par_pos h2 g2 hc'
      · subst g2; rw [Int.mul_zero] at hc'; have := Int.mul_pos h2 g3; omega
    · subst h2
      rw [Int.zero_mul] at hc' ⊢
      rcases g2 with g2 | ⟨g2, g3⟩
      · have := Int.mul_pos h3 g2; omega
      · have := Int.mul_pos h3 g3; omega
  · refine ⟨fun q => by omega, fun _ => ?_⟩
    rcases h2 with h2 | ⟨h2, h3⟩
    · rcases g2 with g2 | ⟨g2, g3⟩
      · exact par_neg h2 g2 hc'
      · subst g2; rw [Int.mul_zero] at hc'; have := Int.mul_neg_of_pos_of_neg h2 g3; omega
    · subst h2
      rw [Int.zero_mul] at hc' ⊢
      rcases g2 with g2 | ⟨g2, g3⟩
      · have := Int.mul_neg_of_pos_of_neg h3 g2; omega
      · have := Int.mul_neg_of_pos_of_neg h3 g3; omega
  · refine ⟨fun q => by omega, fun _ => ?_⟩
    rcases h2 with h2 | ⟨h2, h3⟩
    · rcases g2 with g2 | ⟨g2, g3⟩
      · have := par_neg (a := e_x) (b := e_y) (c := dx) (d := dy) g2 h2 (by grind); grind
      · subst g2; rw [Int.mul_zero] at hc'; have := Int.mul_neg_of_neg_of_pos h2 g3; omega
    · subst h2
      rw [Int.zero_mul] at hc' ⊢
      rcases g2 with g2 | ⟨g2, g3⟩
      · have := Int.mul_neg_of_neg_of_pos h3 g2; omega
      · have := Int.mul_neg_of_neg_of_pos h3 g3; omega
  · refine ⟨fun _ => ?_, fun q => absurd rfl q⟩
    rcases h2 with h2 | ⟨h2, h3⟩
    · rcases g2 with g2 | ⟨g2, g3⟩
      · have := par_pos (a := -dx) (b := -dy) (c := -e_x) (d := -e_y) (by omega) (by omega) (by grind); grind
      · subst g2; rw [Int.mul_zero] at hc'; have := Int.mul_pos_of_neg_of_neg h2 g3; omega
    · subst h2
      rw [Int.zero_mul] at hc' ⊢
      rcases g2 with g2 | ⟨g2, g3⟩
      · have := Int.mul_pos_of_neg_of_neg h3 g2; omega
      · have := Int.mul_pos_of_neg_of_neg h3 g3; omega
theorem half_zero (x y : Int) : half x y = 0 ↔ (x = 0 ∧ y = 0) := by have := half_cases x y; omega
theorem angle_zero (dx dy e_x e_y : Int) : angle dx dy e_x e_y = 0 ↔ ((dx = 0 ∧ dy = 0 ∧ e_x = 0 ∧ e_y = 0) ∨ (¬ (dx = 0 ∧ dy = 0) ∧ ¬ (e_x = 0 ∧ e_y = 0) ∧ crs 0 0 dx dy e_x e_y = 0 ∧ 0 < dot 0 0 dx dy e_x e_y)) := by
  have zd := half_zero dx dy
  have ze := half_zero e_x e_y
  have key : ¬ (dx = 0 ∧ dy = 0) → ¬ (e_x = 0 ∧ e_y = 0) → crs 0 0 dx dy e_x e_y = 0 → _ := fun a b c => dot_dir c (by omega) (by omega)
  by_cases h : half dx dy = half e_x e_y
  · rw [angle_same h, cmp_zero]
    have hcr : crs 0 0 dx dy e_x e_y = dx * e_y - dy * e_x := by unfold crs; simp only [Int.sub_zero]
    by_cases hz : dx = 0 ∧ dy = 0
    · obtain ⟨rfl, rfl⟩ := hz
      have : e_x = 0 ∧ e_y = 0 := by omega
      obtain ⟨rfl, rfl⟩ := this
      simp
    · have hz' : ¬ (e_x = 0 ∧ e_y = 0) := by omega
      constructor
      · intro q
        have hc : crs 0 0 dx dy e_x e_y = 0 := by omega
        exact .inr ⟨hz, hz', hc, (key hz hz' hc).1 h⟩
      · rintro (q | ⟨_, _, q, _⟩) <;> omega
  · rw [angle_diff h, cmp_zero]
    constructor
    · intro q; exact absurd q h
    · rintro (q | ⟨q1, q2, q3, q4⟩)
      · omega
      · have := (key q1 q2 q3).2 h; omega
theorem mul_le {a b c : Int} (h : a ≤ b) (hc : 0 ≤ c) : c * a ≤ c * b := Int.mul_le_mul_of_nonneg_left h hc
theorem up_trans {a b c d e f : Int} (h1 : 0 ≤ b) (h2 : 0 ≤ d) (h3 : 0 ≤ f) (hd : 0 < b ∨ (b = 0 ∧ 0 < a)) (he : 0 < d ∨ (d = 0 ∧ 0 < c))
    (p : b * c ≤ a * d) (q : d * e ≤ c * f) : b * e ≤ a * f := by
  rcases he with he | ⟨he, hc⟩
  · have s1 := mul_le q h1
    have s2 := mul_le p h3
    have : d * (b * e) ≤ d * (a * f) := by grind
    rcases Int.lt_or_le (a * f) (b * e) with g | g
    · have := Int.mul_lt_mul_of_pos_left g he; omega
    · exact g
  · subst he
    rw [Int.mul_zero] at p
    rcases hd with hd | ⟨hd, ha⟩
    · have := Int.mul_pos hd hc; omega
    · subst hd
      rw [Int.zero_mul]; exact Int.mul_nonneg (by omega) h3
theorem angle_trans (dx dy e_x e_y fx fy : Int) : angle dx dy e_x e_y ≤ 0 → angle e_x e_y fx fy ≤ 0 → angle dx dy fx fy ≤ 0 := by
  intro p q
  by_cases h1 : half dx dy = half e_x e_y
  · by_cases h2 : half e_x e_y = half fx fy
    · rw [angle_same h1, cmp_le] at p
      rw [angle_same h2, cmp_le] at q
      rw [angle_same (h1.trans h2), cmp_le]
      rcases half_cases dx dy with ⟨a, b⟩ | ⟨a, b⟩ | ⟨a, b⟩
      · rw [b.1, b.2]; simp
      · rcases half_cases e_x e_y with ⟨a2, b2⟩ | ⟨a2, b2⟩ | ⟨a2, b2⟩
        · omega
        · rcases half_cases fx fy with ⟨a3, b3⟩ | ⟨a3, b3⟩ | ⟨a3, b3⟩
          · omega
          · exact up_trans (by omega) (by omega) (by omega) b b2 p q
          · omega
        · omega
      · rcases half_cases e_x e_y with ⟨a2, b2⟩ | ⟨a2, b2⟩ | ⟨a2, b2⟩
        · omega
        · omega
        · rcases half_cases fx fy with ⟨a3, b3⟩ | ⟨a3, b3⟩ | ⟨a3, b3⟩
          · omega
          · omega
          · have := up_trans (a := -dx) (b := -dy) (c := -e_x) (d := -e_y) (e := -fx) (f := -fy) (by omega) (by omega) (by omega) (by omega) (by omega) (by grind) (by grind)
            grind
    · rw [angle_diff h2, cmp_le] at q
      rw [angle_diff (by omega), cmp_le]; omega
  · rw [angle_diff h1, cmp_le] at p
    by_cases h2 : half e_x e_y = half fx fy
    · rw [angle_diff (by omega), cmp_le]; omega
    · rw [angle_diff h2, cmp_le] at q
      rw [angle_diff (by omega), cmp_le]; omega
theorem angle_quarter (dx dy e_x e_y : Int) : ¬ (dy < 0 ∨ e_y < 0 ∨ (dx < 0 ∧ dy = 0) ∨ (e_x < 0 ∧ e_y = 0)) → angle (-dy) dx (-e_y) e_x = angle dx dy e_x e_y := by
  intro h
  have hd := half_cases dx dy
  have he := half_cases e_x e_y
  have hd2 := half_cases (-dy) dx
  have he2 := half_cases (-e_y) e_x
  by_cases z : half dx dy = half e_x e_y
  · by_cases z0 : half dx dy = 0
    · have : dx = 0 ∧ dy = 0 := by omega
      have : e_x = 0 ∧ e_y = 0 := by omega
      have e1 : half (-dy) dx = half (-e_y) e_x := by omega
      rw [angle_same z, angle_same e1, show dx = 0 by omega, show dy = 0 by omega]
      simp
    · rw [angle_same z]
      by_cases z2 : half (-dy) dx = half (-e_y) e_x
      · rw [angle_same z2]
        unfold cmp
        have e1 : dx * -e_y = -(dx * e_y) := by grind
        have e2 : -dy * e_x = -(dy * e_x) := by grind
        rw [e1, e2]
        (repeat' split) <;> omega
      · rw [angle_diff z2]
        by_cases s : 0 < dx
        · have hx : e_x ≤ 0 := by omega
          have hy : 0 < e_y := by omega
          have p1 := Int.mul_pos s hy
          have p2 : dy * e_x ≤ 0 := Int.mul_nonpos_of_nonneg_of_nonpos (by omega) hx
          have : half (-dy) dx = 1 := by omega
          have : half (-e_y) e_x = 2 := by omega
          unfold cmp
          (repeat' split) <;> omega
        · have hx : 0 < e_x := by omega
          have hy : 0 < dy := by omega
          have p1 := Int.mul_pos hy hx
          have p2 : dx * e_y ≤ 0 := Int.mul_nonpos_of_nonpos_of_nonneg (by omega) (by omega)
          have : half (-dy) dx = 2 := by omega
          have : half (-e_y) e_x = 1 := by omega
          unfold cmp
          (repeat' split) <;> omega
  · rw [angle_diff z]
    by_cases z0 : half dx dy = 0
    · rw [angle_diff (by omega)]
      unfold cmp
      (repeat' split) <;> omega
    · rw [angle_diff (by omega)]
      unfold cmp
      (repeat' split) <;> omega
end Go.Proofs.YtngmegnaohmapaaDoor.Am.Sp

namespace Go.Proofs.YtngmegnaohmapaaDoor.Am.Sp
def onb (ax ay bx b_y px py : Int) : Bool := cmp (crs ax ay bx b_y px py) 0 == 0 && decide (dot px py ax ay bx b_y ≤ 0)
theorem crs_cyc (ax ay bx b_y cx cy : Int) : crs ax ay bx b_y cx cy = crs bx b_y cx cy ax ay := by unfold crs; grind
theorem crs_anti (ax ay bx b_y cx cy : Int) : crs ax ay bx b_y cx cy = 0 - crs bx b_y ax ay cx cy := by unfold crs; grind
theorem crs_move (ax ay bx b_y cx cy gx gy : Int) : crs ax ay bx b_y cx cy = crs (ax + gx) (ay + gy) (bx + gx) (b_y + gy) (cx + gx) (cy + gy) := by
  unfold crs
  rw [show bx + gx - (ax + gx) = bx - ax by omega, show cy + gy - (ay + gy) = cy - ay by omega, show b_y + gy - (ay + gy) = b_y - ay by omega, show cx + gx - (ax + gx) = cx - ax by omega]
theorem dot_comm (ax ay bx b_y cx cy : Int) : dot ax ay bx b_y cx cy = dot ax ay cx cy bx b_y := by unfold dot; grind
theorem sq_comm (ax ay bx b_y : Int) : dot ax ay bx b_y bx b_y = dot bx b_y ax ay ax ay := by unfold dot; grind
theorem lagrange (ax ay bx b_y cx cy : Int) : crs ax ay bx b_y cx cy * crs ax ay bx b_y cx cy + dot ax ay bx b_y cx cy * dot ax ay bx b_y cx cy = dot ax ay bx b_y bx b_y * dot ax ay cx cy cx cy := by
  unfold crs dot
  generalize bx - ax = u; generalize b_y - ay = v; generalize cx - ax = s; generalize cy - ay = t
  grind
theorem crs_bd {ax ay bx b_y cx cy M : Int} (_hM : 0 ≤ M) (h : (-M ≤ ax ∧ ax ≤ M) ∧ (-M ≤ ay ∧ ay ≤ M) ∧ (-M ≤ bx ∧ bx ≤ M) ∧ (-M ≤ b_y ∧ b_y ≤ M) ∧ (-M ≤ cx ∧ cx ≤ M) ∧ (-M ≤ cy ∧ cy ≤ M)) :
    (-(2 * (2 * M * (2 * M))) ≤ crs ax ay bx b_y cx cy ∧ crs ax ay bx b_y cx cy ≤ 2 * (2 * M * (2 * M))) ∧ (-(2 * (2 * M * (2 * M))) ≤ dot ax ay bx b_y cx cy ∧ dot ax ay bx b_y cx cy ≤ 2 * (2 * M * (2 * M))) := by
  obtain ⟨h1, h2, h3, h4, h5, h6⟩ := h
  unfold crs dot
  have p1 := mul_bd (a := bx - ax) (b := cy - ay) (A := 2 * M) (B := 2 * M) (by omega) (by omega) (by omega) (by omega)
  have p2 := mul_bd (a := b_y - ay) (b := cx - ax) (A := 2 * M) (B := 2 * M) (by omega) (by omega) (by omega) (by omega)
  have p3 := mul_bd (a := bx - ax) (b := cx - ax) (A := 2 * M) (B := 2 * M) (by omega) (by omega) (by omega) (by omega)
  have p4 := mul_bd (a := b_y - ay) (b := cy - ay) (A := 2 * M) (B := 2 * M) (by omega) (by omega) (by omega) (by omega)
  omega
theorem sqr_nonneg (a : Int) : 0 ≤ a * a := by
  rcases Int.le_total 0 a with q | q
  · exact Int.mul_nonneg q q
  · exact Int.mul_nonneg_of_nonpos_of_nonpos q q
theorem dot_nonneg (ax ay bx b_y : Int) : 0 ≤ dot ax ay bx b_y bx b_y := by
  unfold dot
  have := sqr_nonneg (bx - ax); have := sqr_nonneg (b_y - ay); omega
theorem pcmp_anti (ax ay bx b_y : Int) : pcmp ax ay bx b_y = 0 - pcmp bx b_y ax ay := by
  unfold pcmp cmp
  (repeat' split) <;> simp_all <;> omega
theorem pcmp_zero (ax ay bx b_y : Int) : (pcmp ax ay bx b_y == 0) = ((ax == bx) && ((ay == b_y) && true)) := by
  by_cases h1 : ax = bx
  · by_cases h2 : ay = b_y
    · subst h1 h2; simp [pcmp, cmp]
    · subst h1
      have e : (ay == b_y) = false := by simpa using h2
      have e2 : cmp ay b_y ≠ 0 := fun q => h2 ((cmp_zero _ _).1 q)
      have e3 : (cmp ax ax != 0) = true ↔ False := by simp [cmp]
      have e4 : pcmp ax ay ax b_y = cmp ay b_y := by unfold pcmp; rw [if_neg (fun q => e3.1 q)]
      rw [e4, e]; simpa using e2
  · have : (ax == bx) = false := by simpa using h1
    rw [this]
    simp only [Bool.false_and, beq_eq_false_iff_ne, ne_eq]
    have e : (cmp ax bx != 0) = true := by
      rw [bne_iff_ne]; intro q; exact h1 ((cmp_zero _ _).1 q)
    unfold pcmp
    rw [if_pos e]
    intro q; exact h1 ((cmp_zero _ _).1 q)
theorem onb_iff (ax ay bx b_y px py : Int) : onb ax ay bx b_y px py = true ↔ crs ax ay bx b_y px py = 0 ∧ dot px py ax ay bx b_y ≤ 0 := by
  unfold onb
  rw [Bool.and_eq_true, beq_iff_eq, cmp_zero, decide_eq_true_iff]
theorem onb_comm (ax ay bx b_y px py : Int) : onb ax ay bx b_y px py = onb bx b_y ax ay px py := by
  rw [Bool.eq_iff_iff, onb_iff, onb_iff, crs_anti ax, dot_comm px]
  omega
theorem onb_crs {ax ay bx b_y px py : Int} (h : onb ax ay bx b_y px py = true) : crs ax ay bx b_y px py = 0 := ((onb_iff ..).1 h).1
theorem onb_near {ax ay bx b_y px py : Int} (h : onb ax ay bx b_y px py = true) : dot ax ay px py px py ≤ dot ax ay bx b_y bx b_y := by
  have h2 := ((onb_iff ..).1 h).2
  unfold dot at h2 ⊢
  have e1 := sqr_nonneg (bx - ax - (px - ax)); have e2 := sqr_nonneg (b_y - ay - (py - ay))
  grind
theorem onb_a (ax ay bx b_y : Int) : onb ax ay bx b_y ax ay = true := by
  rw [onb_iff]; unfold crs dot; grind
theorem onb_b (ax ay bx b_y : Int) : onb ax ay bx b_y bx b_y = true := by
  rw [onb_iff]; unfold crs dot; grind
/-- between, as the document says it -/
def btw (n a b : Int) : Bool := (decide (a ≤ n) && decide (n ≤ b)) || (decide (b ≤ n) && decide (n ≤ a))
theorem btw_iff (n a b : Int) : btw n a b = true ↔ (a ≤ n ∧ n ≤ b) ∨ (b ≤ n ∧ n ≤ a) := by unfold btw; simp
theorem btw_mul {n a b : Int} : btw n a b = true ↔ (a - n) * (b - n) ≤ 0 := by
  rw [btw_iff]
  constructor
  · rintro (⟨h1, h2⟩ | ⟨h1, h2⟩)
    · exact Int.mul_nonpos_of_nonpos_of_nonneg (by omega) (by omega)
    · exact Int.mul_nonpos_of_nonneg_of_nonpos (by omega) (by omega)
  · intro h
    rcases Int.lt_or_le n a with h1 | h1
    · rcases Int.lt_or_le n b with h2 | h2
      · have := Int.mul_pos (show 0 < a - n by omega) (show 0 < b - n by omega); omega
      · omega
    · rcases Int.lt_or_le n b with h2 | h2
      · omega
      · rcases Int.lt_or_le a n with h3 | h3
        · rcases Int.lt_or_le b n with h4 | h4
          · have := Int.mul_pos_of_neg_of_neg (show a - n < 0 by omega) (show b - n < 0 by omega); omega
          · omega
        · omega
theorem lies_on (ax ay bx b_y px py : Int) : ((crs ax ay bx b_y px py == 0) && (btw px ax bx && btw py ay b_y)) = onb ax ay bx b_y px py := by
  rw [Bool.eq_iff_iff, onb_iff, Bool.and_eq_true, beq_iff_eq, Bool.and_eq_true, btw_mul, btw_mul]
  constructor
  · rintro ⟨h1, h2, h3⟩; refine ⟨h1, ?_⟩; unfold dot; omega
  · rintro ⟨h1, h2⟩
    refine ⟨h1, ?_⟩
    unfold crs at h1
    unfold dot at h2
    generalize hu : ax - px = u at *
    generalize hv : ay - py = v at *
    generalize hs : bx - px = s at *
    generalize ht : b_y - py = t at *
    have h1' : u * t = v * s := by
      have a1 : bx - ax = s - u := by omega
      have a2 : py - ay = -v := by omega
      have a3 : b_y - ay = t - v := by omega
      have a4 : px - ax = -u := by omega
      rw [a1, a2, a3, a4] at h1
      grind
    have e : (u * s) * (v * t) = (u * t) * (u * t) := by grind
    have e2 := sqr_nonneg (u * t)
    rcases Int.lt_or_le 0 (u * s) with q | q
    · have := Int.mul_neg_of_pos_of_neg q (show v * t < 0 by omega); omega
    · rcases Int.lt_or_le 0 (v * t) with r | r
      · have := Int.mul_neg_of_neg_of_pos (show u * s < 0 by omega) r; omega
      · exact ⟨q, r⟩
theorem crs_shoe (ax ay bx b_y cx cy : Int) : ax * b_y - ay * bx + bx * cy - b_y * cx + cx * ay - cy * ax = crs ax ay bx b_y cx cy := by unfold crs; grind
theorem far_dot (ax ay bx b_y : Int) : (ax - bx) * (ax - bx) + (ay - b_y) * (ay - b_y) = dot ax ay bx b_y bx b_y := by unfold dot; grind
theorem cosines (ax ay bx b_y cx cy : Int) : Int.tdiv (dot ax ay bx b_y bx b_y + dot ax ay cx cy cx cy - dot bx b_y cx cy cx cy) 2 = dot ax ay bx b_y cx cy := by
  rw [show dot ax ay bx b_y bx b_y + dot ax ay cx cy cx cy - dot bx b_y cx cy cx cy = dot ax ay bx b_y cx cy * 2 by unfold dot; grind]
  exact Int.mul_tdiv_cancel _ (by decide)
theorem cmp_sgn (a b : Int) : cmp a b = sgn (a - b) := by unfold cmp sgn; (repeat' split) <;> omega
theorem lim_sgn (a : Int) : lim 1 a = cmp a 0 := by unfold lim cmp; (repeat' split) <;> omega
def quarter (x y : Int) : Int := if x = 0 ∧ y = 0 then 0 else if 0 < x ∧ 0 ≤ y then 1 else if x ≤ 0 ∧ 0 < y then 2 else if x < 0 then 3 else 4
theorem quarter_cases (x y : Int) : (quarter x y = 0 ∧ half x y = 0 ∧ x = 0 ∧ y = 0) ∨ (quarter x y = 1 ∧ half x y = 1 ∧ 0 < x ∧ 0 ≤ y) ∨ (quarter x y = 2 ∧ half x y = 1 ∧ x ≤ 0 ∧ 0 < y) ∨ (quarter x y = 3 ∧ half x y = 2 ∧ x < 0 ∧ y ≤ 0) ∨ (quarter x y = 4 ∧ half x y = 2 ∧ 0 ≤ x ∧ y < 0) := by
  unfold quarter half; (repeat' split) <;> omega
theorem angle_eq {dx dy e_x e_y : Int} (h : quarter dx dy = quarter e_x e_y) : angle dx dy e_x e_y = sgn (dy * e_x - dx * e_y) := by
  rw [angle_same, cmp_sgn]
  rcases quarter_cases dx dy with a | a | a | a | a <;> rcases quarter_cases e_x e_y with b | b | b | b | b <;> omega
theorem angle_ne {dx dy e_x e_y : Int} (h : quarter dx dy ≠ quarter e_x e_y) : angle dx dy e_x e_y = sgn (quarter dx dy - quarter e_x e_y) := by
  by_cases hh : half dx dy = half e_x e_y
  · rw [angle_same hh]
    rcases quarter_cases dx dy with ⟨a, a', a1, a2⟩ | ⟨a, a', a1, a2⟩ | ⟨a, a', a1, a2⟩ | ⟨a, a', a1, a2⟩ | ⟨a, a', a1, a2⟩ <;> rcases quarter_cases e_x e_y with ⟨b, b', b1, b2⟩ | ⟨b, b', b1, b2⟩ | ⟨b, b', b1, b2⟩ | ⟨b, b', b1, b2⟩ | ⟨b, b', b1, b2⟩ <;> (try omega) <;> rw [a, b]
    · have := Int.mul_nonpos_of_nonneg_of_nonpos a2 b1; have := Int.mul_pos a1 b2; unfold cmp sgn; rw [if_pos (by omega)]; rfl
    · have := Int.mul_pos a2 b1; have := Int.mul_nonpos_of_nonpos_of_nonneg a1 b2; unfold cmp sgn; rw [if_neg (by omega), if_pos (by omega)]; rfl
    · have := Int.mul_nonpos_of_nonpos_of_nonneg a2 b1; have := Int.mul_pos_of_neg_of_neg a1 b2; unfold cmp sgn; rw [if_pos (by omega)]; rfl
    · have := Int.mul_pos_of_neg_of_neg a2 b1; have := Int.mul_nonpos_of_nonneg_of_nonpos a1 b2; unfold cmp sgn; rw [if_neg (by omega), if_pos (by omega)]; rfl
  · rw [angle_diff hh]
    rcases quarter_cases dx dy with ⟨a, a', a1, a2⟩ | ⟨a, a', a1, a2⟩ | ⟨a, a', a1, a2⟩ | ⟨a, a', a1, a2⟩ | ⟨a, a', a1, a2⟩ <;> rcases quarter_cases e_x e_y with ⟨b, b', b1, b2⟩ | ⟨b, b', b1, b2⟩ | ⟨b, b', b1, b2⟩ | ⟨b, b', b1, b2⟩ | ⟨b, b', b1, b2⟩ <;> (try omega) <;> rw [a, b, a', b'] <;> decide
theorem quarter_bd (x y : Int) : 0 ≤ quarter x y ∧ quarter x y ≤ 4 := by unfold quarter; (repeat' split) <;> omega
theorem pcmp_form (ax ay bx b_y : Int) : pcmp ax ay bx b_y = if ax < bx then -1 else if bx < ax then 1 else if ay < b_y then -1 else if b_y < ay then 1 else 0 := by
  unfold pcmp
  by_cases h : ax < bx
  · simp [cmp, h]
  · by_cases g : bx < ax
    · simp [cmp, h, g]
    · have : ax = bx := by omega
      subst this
      simp [cmp]
theorem pcmp_bd (ax ay bx b_y : Int) : -1 ≤ pcmp ax ay bx b_y ∧ pcmp ax ay bx b_y ≤ 1 := by rw [pcmp_form]; (repeat' split) <;> omega
end Go.Proofs.YtngmegnaohmapaaDoor.Am.Sp

namespace Go.Proofs.YtngmegnaohmapaaDoor.Am.Sp
/-! The curve: places and points -/
def pw (j : Nat) : Int := 2 ^ j
def p4 (j : Nat) : Int := 4 ^ j
theorem pw_succ (j : Nat) : pw (j + 1) = 2 * pw j := by unfold pw; rw [Int.pow_succ]; omega
theorem p4_succ (j : Nat) : p4 (j + 1) = 4 * p4 j := by unfold p4; rw [Int.pow_succ]; omega
theorem pw_pos (j : Nat) : 0 < pw j := by induction j with | zero => decide | succ n ih => rw [pw_succ]; omega
theorem p4_pos (j : Nat) : 0 < p4 j := by induction j with | zero => decide | succ n ih => rw [p4_succ]; omega
theorem pw_sq (j : Nat) : pw j * pw j = p4 j := by
  induction j with
  | zero => decide
  | succ n ih => rw [pw_succ, p4_succ, ← ih]; grind
theorem pw_add (m k : Nat) : pw (m + k) = pw m * pw k := by unfold pw; exact Int.pow_add _ _ _
theorem p4_add (m k : Nat) : p4 (m + k) = p4 m * p4 k := by unfold p4; exact Int.pow_add _ _ _
theorem pw_mono {j k : Nat} (h : j ≤ k) : pw j ≤ pw k := by
  induction h with
  | refl => exact Int.le_refl _
  | step _ ih => rw [pw_succ]; have := pw_pos j; omega
theorem p4_mono {j k : Nat} (h : j ≤ k) : p4 j ≤ p4 k := by
  induction h with
  | refl => exact Int.le_refl _
  | step _ ih => rw [p4_succ]; have := p4_pos j; omega
def tx (x y s r u : Int) : Int := if u = 1 then x else if r = 1 then s - 1 - y else y
def ty (x y s r u : Int) : Int := if u = 1 then y else if r = 1 then s - 1 - x else x
def dg (r u : Int) : Int := if r = 0 then (if u = 0 then 0 else 1) else if u = 0 then 3 else 2
def rdg (d : Int) : Int := d / 2
def udg (d : Int) : Int := (d + d / 2) % 2
theorem t_bd {x y s r u : Int} (h1 : 0 ≤ x ∧ x < s) (h2 : 0 ≤ y ∧ y < s) : (0 ≤ tx x y s r u ∧ tx x y s r u < s) ∧ (0 ≤ ty x y s r u ∧ ty x y s r u < s) := by
  unfold tx ty; (repeat' split) <;> omega
theorem t_inv (x y s r u : Int) : tx (tx x y s r u) (ty x y s r u) s r u = x ∧ ty (tx x y s r u) (ty x y s r u) s r u = y := by
  unfold tx ty; (repeat' split) <;> omega
theorem rdg_bd {d : Int} (h : 0 ≤ d ∧ d < 4) : (rdg d = 0 ∨ rdg d = 1) ∧ (udg d = 0 ∨ udg d = 1) ∧ dg (rdg d) (udg d) = d := by
  have : d = 0 ∨ d = 1 ∨ d = 2 ∨ d = 3 := by omega
  rcases this with rfl | rfl | rfl | rfl <;> decide
theorem dg_bd {r u : Int} (hr : r = 0 ∨ r = 1) (hu : u = 0 ∨ u = 1) : (0 ≤ dg r u ∧ dg r u < 4) ∧ rdg (dg r u) = r ∧ udg (dg r u) = u := by
  rcases hr with rfl | rfl <;> rcases hu with rfl | rfl <;> decide
def idx : Nat → Int → Int → Int
  | 0, _, _ => 0
  | j + 1, x, y => pw j * pw j * dg (x / pw j) (y / pw j) + idx j (tx (x % pw j) (y % pw j) (pw j) (x / pw j) (y / pw j)) (ty (x % pw j) (y % pw j) (pw j) (x / pw j) (y / pw j))
def pos : Nat → Int → Int × Int
  | 0, _ => (0, 0)
  | j + 1, n => (tx (pos j n).1 (pos j n).2 (pw j) (rdg (n / p4 j % 4)) (udg (n / p4 j % 4)) + pw j * rdg (n / p4 j % 4), ty (pos j n).1 (pos j n).2 (pw j) (rdg (n / p4 j % 4)) (udg (n / p4 j % 4)) + pw j * udg (n / p4 j % 4))
theorem quo01 {x s : Int} (hs : 0 < s) (h : 0 ≤ x ∧ x < 2 * s) : (x / s = 0 ∧ x % s = x ∧ x < s) ∨ (x / s = 1 ∧ x % s = x - s ∧ s ≤ x) := by
  rcases Int.lt_or_le x s with q | q
  · exact .inl ⟨Int.ediv_eq_zero_of_lt h.1 q, Int.emod_eq_of_lt h.1 q, q⟩
  · have e1 : x / s = 1 := by
      rw [show x = (x - s) + s * 1 by omega, Int.add_mul_ediv_left _ _ (by omega), Int.ediv_eq_zero_of_lt (by omega) (by omega)]; rfl
    have := Int.mul_ediv_add_emod x s
    rw [e1] at this
    exact .inr ⟨e1, by omega, q⟩
theorem idx_bd : ∀ (j : Nat) {x y : Int}, (0 ≤ x ∧ x < pw j) → (0 ≤ y ∧ y < pw j) → 0 ≤ idx j x y ∧ idx j x y < p4 j := by
  intro j
  induction j with
  | zero => intro x y _ _; exact ⟨by show (0 : Int) ≤ 0; omega, by show (0 : Int) < 1; omega⟩
  | succ j ih =>
    intro x y hx hy
    rw [pw_succ] at hx hy
    have hp := pw_pos j
    have hm := fun z => emod_bd z hp
    have hb := ih (t_bd (s := pw j) (r := x / pw j) (u := y / pw j) (hm x) (hm y)).1 (t_bd (s := pw j) (r := x / pw j) (u := y / pw j) (hm x) (hm y)).2
    have d := (dg_bd (r := x / pw j) (u := y / pw j) (by rcases quo01 hp hx with q | q <;> omega) (by rcases quo01 hp hy with q | q <;> omega)).1
    unfold idx
    rw [p4_succ, pw_sq]
    have h4 := p4_pos j
    generalize dg (x / pw j) (y / pw j) = e at *
    have : e = 0 ∨ e = 1 ∨ e = 2 ∨ e = 3 := by omega
    rcases this with rfl | rfl | rfl | rfl <;> omega
theorem pos_bd (n : Int) : ∀ (j : Nat), (0 ≤ (pos j n).1 ∧ (pos j n).1 < pw j) ∧ (0 ≤ (pos j n).2 ∧ (pos j n).2 < pw j) := by
  intro j
  induction j with
  | zero => exact ⟨⟨by show (0 : Int) ≤ 0; omega, by show (0 : Int) < 1; omega⟩, by show (0 : Int) ≤ 0; omega, by show (0 : Int) < 1; omega⟩
  | succ j ih =>
    have d := rdg_bd (emod_bd (n / p4 j) (n := 4) (by decide))
    have t := t_bd (s := pw j) (r := rdg (n / p4 j % 4)) (u := udg (n / p4 j % 4)) ih.1 ih.2
    rw [pw_succ]
    simp only [pos]
    rcases d with ⟨d1 | d1, d2 | d2, _⟩ <;> rw [d1, d2] at t ⊢ <;> omega
theorem emod_p4 (n : Int) (j : Nat) : n % p4 (j + 1) = p4 j * (n / p4 j % 4) + n % p4 j := by
  have hp := p4_pos j
  rw [p4_succ]
  have e1 := Int.mul_ediv_add_emod n (p4 j)
  have e2 := Int.mul_ediv_add_emod (n / p4 j) 4
  have e3 : n = (p4 j * (n / p4 j % 4) + n % p4 j) + 4 * p4 j * (n / p4 j / 4) := by
    generalize n / p4 j = q at *
    rw [← e2] at e1
    rw [Int.mul_add] at e1
    have : 4 * p4 j * (q / 4) = p4 j * (4 * (q / 4)) := by grind
    generalize hd : q / 4 = a at *
    omega
  have b1 := emod_bd n hp
  have b2 := emod_bd (n / p4 j) (n := 4) (by decide)
  have b3 : 0 ≤ p4 j * (n / p4 j % 4) ∧ p4 j * (n / p4 j % 4) ≤ p4 j * 3 := ⟨Int.mul_nonneg (by omega) b2.1, Int.mul_le_mul_of_nonneg_left (by omega) (by omega)⟩
  generalize hA : p4 j * (n / p4 j % 4) + n % p4 j = A at *
  generalize n / p4 j / 4 = B at *
  rw [e3, Int.add_mul_emod_self_left]
  exact Int.emod_eq_of_lt (by omega) (by omega)
theorem idx_pos (n : Int) : ∀ (j : Nat), idx j (pos j n).1 (pos j n).2 = n % p4 j := by
  intro j
  induction j with
  | zero => show (0 : Int) = n % 1; omega
  | succ j ih =>
    have hd := emod_bd (n / p4 j) (n := 4) (by decide)
    have d := rdg_bd hd
    have b := pos_bd n j
    have t := t_bd (s := pw j) (r := rdg (n / p4 j % 4)) (u := udg (n / p4 j % 4)) b.1 b.2
    have i := t_inv (pos j n).1 (pos j n).2 (pw j) (rdg (n / p4 j % 4)) (udg (n / p4 j % 4))
    have hp := pw_pos j
    rw [emod_p4]
    simp only [pos, idx]
    generalize hX : tx (pos j n).1 (pos j n).2 (pw j) (rdg (n / p4 j % 4)) (udg (n / p4 j % 4)) = X at *
    generalize hY : ty (pos j n).1 (pos j n).2 (pw j) (rdg (n / p4 j % 4)) (udg (n / p4 j % 4)) = Y at *
    have q : ∀ {Z r : Int}, (0 ≤ Z ∧ Z < pw j) → (r = 0 ∨ r = 1) → (Z + pw j * r) / pw j = r ∧ (Z + pw j * r) % pw j = Z := by
      intro Z r hz hr
      rw [Int.add_mul_ediv_left _ _ (by omega), Int.add_mul_emod_self_left, Int.ediv_eq_zero_of_lt hz.1 hz.2, Int.emod_eq_of_lt hz.1 hz.2]; omega
    rw [(q t.1 d.1).1, (q t.1 d.1).2, (q t.2 d.2.1).1, (q t.2 d.2.1).2, i.1, i.2, ih, d.2.2, pw_sq]
theorem pos_low (n m : Int) (j : Nat) : pos j (n + p4 j * m) = pos j n := by
  induction j generalizing m with
  | zero => rfl
  | succ j ih =>
    have h4 := p4_pos j
    have e : n + p4 (j + 1) * m = n + p4 j * (4 * m) := by rw [p4_succ]; grind
    rw [e]
    have e2 : (n + p4 j * (4 * m)) / p4 j % 4 = n / p4 j % 4 := by rw [Int.add_mul_ediv_left _ _ (by omega)]; omega
    simp only [pos, ih, e2]
theorem pos_idx : ∀ (j : Nat) {x y : Int}, (0 ≤ x ∧ x < pw j) → (0 ≤ y ∧ y < pw j) → pos j (idx j x y) = (x, y) := by
  intro j
  induction j with
  | zero => intro x y h1 h2; have : pw 0 = 1 := rfl; have a : x = 0 := by omega
            have b : y = 0 := by omega
            subst a b; rfl
  | succ j ih =>
    intro x y hx hy
    rw [pw_succ] at hx hy
    have hp := pw_pos j
    have h4 := p4_pos j
    have hm := fun z => emod_bd z hp
    have t := t_bd (s := pw j) (r := x / pw j) (u := y / pw j) (hm x) (hm y)
    have ib := idx_bd j t.1 t.2
    have ih' := ih t.1 t.2
    have d := dg_bd (r := x / pw j) (u := y / pw j) (by rcases quo01 hp hx with q | q <;> omega) (by rcases quo01 hp hy with q | q <;> omega)
    have i := t_inv (x % pw j) (y % pw j) (pw j) (x / pw j) (y / pw j)
    simp only [idx]
    rw [pw_sq]
    generalize hI : idx j (tx (x % pw j) (y % pw j) (pw j) (x / pw j) (y / pw j)) (ty (x % pw j) (y % pw j) (pw j) (x / pw j) (y / pw j)) = I at *
    generalize hD : dg (x / pw j) (y / pw j) = D at *
    rw [Int.add_comm]
    have e2 : (I + p4 j * D) / p4 j % 4 = D := by rw [Int.add_mul_ediv_left _ _ (by omega), Int.ediv_eq_zero_of_lt ib.1 ib.2]; omega
    simp only [pos, pos_low, e2, ih', d.2.1, d.2.2, i.1, i.2]
    have a := Int.mul_ediv_add_emod x (pw j); have b := Int.mul_ediv_add_emod y (pw j)
    exact Prod.ext (by show _ = x; omega) (by show _ = y; omega)
theorem pos_zero (j : Nat) : pos j 0 = (0, 0) := by
  induction j with
  | zero => rfl
  | succ j ih => simp only [pos, ih, Int.zero_ediv]; simp [tx, ty, rdg, udg]
theorem pos_last (j : Nat) : pos j (p4 j - 1) = (pw j - 1, 0) := by
  induction j with
  | zero => rfl
  | succ j ih =>
    have h4 := p4_pos j
    have e : p4 (j + 1) - 1 = (p4 j - 1) + p4 j * 3 := by rw [p4_succ]; omega
    have e2 : (p4 j - 1 + p4 j * 3) / p4 j % 4 = 3 := by rw [Int.add_mul_ediv_left _ _ (by omega), Int.ediv_eq_zero_of_lt (by omega) (by omega)]; rfl
    rw [e]
    simp only [pos, pos_low, e2, ih, pw_succ]
    exact Prod.ext (by show tx _ _ _ 1 0 + pw j * 1 = _; unfold tx; simp; omega) (by show ty _ _ _ 1 0 + pw j * 0 = _; unfold ty; simp)
def nb (a b c d : Int) : Prop := (a = c ∧ (b = d + 1 ∨ d = b + 1)) ∨ (b = d ∧ (a = c + 1 ∨ c = a + 1))
theorem pos_step : ∀ (j : Nat) {n : Int}, 0 ≤ n → n + 1 < p4 j → nb (pos j n).1 (pos j n).2 (pos j (n + 1)).1 (pos j (n + 1)).2 := by
  intro j
  induction j with
  | zero => intro n h1 h2; have : p4 0 = 1 := rfl; omega
  | succ j ih =>
    intro n h1 h2
    rw [p4_succ] at h2
    have h4 := p4_pos j
    have hp := pw_pos j
    have e := Int.mul_ediv_add_emod n (p4 j)
    have b := emod_bd n h4
    generalize hq : n / p4 j = q at *
    generalize hr : n % p4 j = r at *
    have q0 : 0 ≤ q := by rw [← hq]; exact Int.ediv_nonneg h1 (by omega)
    have q4 : q < 4 := by rw [← hq]; exact Int.ediv_lt_of_lt_mul h4 (by omega)
    have en : n = r + p4 j * q := by omega
    have en1 : n + 1 = (r + 1) + p4 j * q := by omega
    have d0 : n / p4 j % 4 = q := by rw [hq]; omega
    have pn : pos j n = pos j r := by rw [en]; exact pos_low _ _ _
    rcases Int.lt_or_le (r + 1) (p4 j) with h | h
    · have d1 : (n + 1) / p4 j % 4 = q := by rw [en1, Int.add_mul_ediv_left _ _ (by omega), Int.ediv_eq_zero_of_lt (by omega) h]; omega
      have pn1 : pos j (n + 1) = pos j (r + 1) := by rw [en1]; exact pos_low _ _ _
      have i := ih b.1 h
      simp only [pos, d0, d1, pn, pn1]
      unfold nb at i ⊢
      unfold tx ty
      (repeat' split) <;> omega
    · have er : r = p4 j - 1 := by omega
      have en2 : n + 1 = 0 + p4 j * (q + 1) := by rw [Int.mul_add]; omega
      have q3 : q + 1 < 4 := by
        rcases Int.lt_or_le (q + 1) 4 with g | g
        · exact g
        · have : p4 j * 4 ≤ p4 j * (q + 1) := Int.mul_le_mul_of_nonneg_left g (by omega)
          omega
      have d1 : (n + 1) / p4 j % 4 = q + 1 := by rw [en2, Int.add_mul_ediv_left _ _ (by omega)]; simp; omega
      have pn1 : pos j (n + 1) = (0, 0) := by rw [en2, pos_low, pos_zero]
      have pn0 : pos j n = (pw j - 1, 0) := by rw [pn, er, pos_last]
      simp only [pos, d0, d1, pn0, pn1]
      have : q = 0 ∨ q = 1 ∨ q = 2 := by omega
      unfold nb
      rcases this with rfl | rfl | rfl <;> simp [tx, ty, rdg, udg] <;> omega
theorem div_mod_pw (x : Int) (m k : Nat) : x / pw k / pw m = x / pw (m + k) ∧ x / pw k % pw m = x % pw (m + k) / pw k := by
  have hk := pw_pos k
  have hm := pw_pos m
  have e1 : x / pw k / pw m = x / pw (m + k) := by rw [pw_add, Int.mul_comm, Int.ediv_ediv_of_nonneg (by omega)]
  refine ⟨e1, ?_⟩
  have a := Int.mul_ediv_add_emod (x / pw k) (pw m)
  have b := Int.mul_ediv_add_emod x (pw (m + k))
  rw [e1] at a
  have c : x % pw (m + k) / pw k = x / pw k - pw m * (x / pw (m + k)) := by
    have : x % pw (m + k) = x + pw k * (-(pw m * (x / pw (m + k)))) := by
      have : pw (m + k) * (x / pw (m + k)) = pw k * (pw m * (x / pw (m + k))) := by rw [pw_add]; grind
      rw [Int.mul_neg]; omega
    rw [this, Int.add_mul_ediv_left _ _ (by omega)]; omega
  omega
theorem t_div {a b r u : Int} (m k : Nat) (_ha : 0 ≤ a ∧ a < pw (m + k)) (_hb : 0 ≤ b ∧ b < pw (m + k)) : tx (a / pw k) (b / pw k) (pw m) r u = tx a b (pw (m + k)) r u / pw k ∧ ty (a / pw k) (b / pw k) (pw m) r u = ty a b (pw (m + k)) r u / pw k := by
  have hk := pw_pos k
  have key : ∀ z : Int, (pw (m + k) - 1 - z) / pw k = pw m - 1 - z / pw k := by
    intro z
    have e := Int.mul_ediv_add_emod z (pw k)
    have b := emod_bd z hk
    have : pw (m + k) - 1 - z = (pw k - 1 - z % pw k) + pw k * (pw m - 1 - z / pw k) := by
      rw [pw_add, Int.mul_sub, Int.mul_sub, Int.mul_comm (pw m)]; omega
    rw [this, Int.add_mul_ediv_left _ _ (by omega), Int.ediv_eq_zero_of_lt (by omega) (by omega)]; omega
  unfold tx ty
  constructor
  · split
    · rfl
    · split
      · rw [key]
      · rfl
  · split
    · rfl
    · split
      · rw [key]
      · rfl
theorem idx_div (k : Nat) : ∀ (m : Nat) {x y : Int}, (0 ≤ x ∧ x < pw (m + k)) → (0 ≤ y ∧ y < pw (m + k)) → idx (m + k) x y / p4 k = idx m (x / pw k) (y / pw k) := by
  intro m
  induction m with
  | zero =>
    intro x y hx hy
    rw [Nat.zero_add] at *
    have := idx_bd k hx hy
    rw [Int.ediv_eq_zero_of_lt this.1 this.2]; rfl
  | succ m ih =>
    intro x y hx hy
    have e : m + 1 + k = (m + k) + 1 := by omega
    rw [e] at hx hy ⊢
    have hp := pw_pos (m + k)
    have h4 := p4_pos k
    have hm := fun z => emod_bd z hp
    have t := t_bd (s := pw (m + k)) (r := x / pw (m + k)) (u := y / pw (m + k)) (hm x) (hm y)
    have i := ih t.1 t.2
    have td := t_div (r := x / pw (m + k)) (u := y / pw (m + k)) m k (hm x) (hm y)
    simp only [idx]
    rw [(div_mod_pw x m k).1, (div_mod_pw x m k).2, (div_mod_pw y m k).1, (div_mod_pw y m k).2, td.1, td.2, ← i, pw_sq, pw_sq, p4_add]
    rw [Int.add_comm, show p4 m * p4 k * dg (x / pw (m + k)) (y / pw (m + k)) = p4 k * (p4 m * dg (x / pw (m + k)) (y / pw (m + k))) by grind, Int.add_mul_ediv_left _ _ (by omega)]
    omega
theorem idx_inj {j : Nat} {x y x' y' : Int} (h1 : 0 ≤ x ∧ x < pw j) (h2 : 0 ≤ y ∧ y < pw j) (h3 : 0 ≤ x' ∧ x' < pw j) (h4 : 0 ≤ y' ∧ y' < pw j) : idx j x y = idx j x' y' ↔ x = x' ∧ y = y' := by
  constructor
  · intro h
    have a := pos_idx j h1 h2
    have b := pos_idx j h3 h4
    rw [h, b] at a
    exact ⟨(congrArg Prod.fst a).symm, (congrArg Prod.snd a).symm⟩
  · rintro ⟨rfl, rfl⟩; rfl
end Go.Proofs.YtngmegnaohmapaaDoor.Am.Sp
namespace Go.Proofs.YtngmegnaohmapaaDoor.Am.Sp
def sd : Nat → Int
  | 0 => 0
  | j + 1 => pw j
theorem sd_pos {j : Nat} (h : sd j > 0) : ∃ i, j = i + 1 ∧ sd j = pw i := by
  cases j with
  | zero => exact absurd h (by decide)
  | succ i => exact ⟨i, rfl, rfl⟩
theorem sd_zero {j : Nat} (h : ¬ sd j > 0) : j = 0 := by
  cases j with
  | zero => rfl
  | succ i => exact absurd (pw_pos i) h
theorem sd_half (i : Nat) : pw i / 2 = sd i := by
  cases i with
  | zero => rfl
  | succ i => rw [pw_succ]; show _ = pw i; omega
theorem idx_round {i : Nat} {x y : Int} (hi : i + 1 ≤ 22) (hx : 0 ≤ x ∧ x < pw (i + 1)) (hy : 0 ≤ y ∧ y < pw (i + 1)) :
    (x / pw i = 0 ∨ x / pw i = 1) ∧ (y / pw i = 0 ∨ y / pw i = 1) ∧ (0 ≤ x % pw i ∧ x % pw i < pw i) ∧ (0 ≤ y % pw i ∧ y % pw i < pw i) ∧
    (0 ≤ pw i * pw i * dg (x / pw i) (y / pw i) ∧ pw i * pw i * dg (x / pw i) (y / pw i) ≤ 17592186044416) ∧
    idx (i + 1) x y = pw i * pw i * dg (x / pw i) (y / pw i) + idx i (tx (x % pw i) (y % pw i) (pw i) (x / pw i) (y / pw i)) (ty (x % pw i) (y % pw i) (pw i) (x / pw i) (y / pw i)) ∧
    0 ≤ idx i (tx (x % pw i) (y % pw i) (pw i) (x / pw i) (y / pw i)) (ty (x % pw i) (y % pw i) (pw i) (x / pw i) (y / pw i)) ∧
    (0 ≤ tx (x % pw i) (y % pw i) (pw i) (x / pw i) (y / pw i) ∧ tx (x % pw i) (y % pw i) (pw i) (x / pw i) (y / pw i) < pw i) ∧ (0 ≤ ty (x % pw i) (y % pw i) (pw i) (x / pw i) (y / pw i) ∧ ty (x % pw i) (y % pw i) (pw i) (x / pw i) (y / pw i) < pw i) ∧
    (0 < pw i ∧ pw i ≤ 2097152) ∧ (0 ≤ pw i * pw i ∧ pw i * pw i ≤ 4398046511104) ∧ (x < 4194304 ∧ y < 4194304) := by
  have hp := pw_pos i
  have hpm : pw i ≤ pw 21 := pw_mono (by omega)
  have h21 : pw 21 = 2097152 := by decide
  have h4m : p4 i ≤ p4 21 := p4_mono (by omega)
  have h421 : p4 21 = 4398046511104 := by decide
  have h4 := p4_pos i
  rw [pw_succ] at hx hy
  have hm := fun z => emod_bd z hp
  have t := t_bd (s := pw i) (r := x / pw i) (u := y / pw i) (hm x) (hm y)
  have ib := idx_bd i t.1 t.2
  have r01 : x / pw i = 0 ∨ x / pw i = 1 := by rcases quo01 hp hx with q | q <;> omega
  have u01 : y / pw i = 0 ∨ y / pw i = 1 := by rcases quo01 hp hy with q | q <;> omega
  have d := (dg_bd r01 u01).1
  have db : 0 ≤ pw i * pw i * dg (x / pw i) (y / pw i) ∧ pw i * pw i * dg (x / pw i) (y / pw i) ≤ pw i * pw i * 4 := by
    rw [pw_sq]; exact ⟨Int.mul_nonneg (by omega) d.1, Int.mul_le_mul_of_nonneg_left (by omega) (by omega)⟩
  have sq := pw_sq i
  exact ⟨r01, u01, hm x, hm y, by omega, rfl, ib.1, t.1, t.2, by omega, by omega, by omega⟩
theorem pos_round {k : Nat} {n m : Int} (hm : m = n / p4 k) : tx (pos k n).1 (pos k n).2 (pw k) (m / 2 % 2) ((m + m / 2) % 2) + pw k * (m / 2 % 2) = (pos (k + 1) n).1 ∧ ty (pos k n).1 (pos k n).2 (pw k) (m / 2 % 2) ((m + m / 2) % 2) + pw k * ((m + m / 2) % 2) = (pos (k + 1) n).2 ∧ m / 4 = n / p4 (k + 1) := by
  have e1 : rdg (n / p4 k % 4) = m / 2 % 2 := by unfold rdg; rw [← hm]; omega
  have e2 : udg (n / p4 k % 4) = (m + m / 2) % 2 := by unfold udg; rw [← hm]; omega
  refine ⟨by simp only [pos]; rw [e1, e2], by simp only [pos]; rw [e1, e2], ?_⟩
  have := p4_pos k
  rw [hm, p4_succ, Int.ediv_ediv_of_nonneg (by omega), Int.mul_comm]
theorem pw_lt {k : Nat} (hk : k ≤ 22) : (pw k < 4194304 → k < 22) ∧ (¬ pw k < 4194304 → k = 22) ∧ (0 < pw k ∧ pw k ≤ 4194304) := by
  have h22 : pw 22 = 4194304 := by decide
  have h21 : pw 21 = 2097152 := by decide
  have hp := pw_pos k
  have hm : pw k ≤ pw 22 := pw_mono hk
  refine ⟨fun h => ?_, fun h => ?_, hp, by omega⟩
  · rcases Nat.lt_or_ge k 22 with g | g
    · exact g
    · have : k = 22 := by omega
      subst this; omega
  · rcases Nat.lt_or_ge k 22 with g | g
    · have : pw k ≤ pw 21 := pw_mono (by omega)
      omega
    · omega
def index (x y : Int) : Int := idx 22 (lim 1048576 x + 1048576) (lim 1048576 y + 1048576)
def okb (x y : Int) : Bool := (x == lim 1048576 x) && ((y == lim 1048576 y) && true)
def ofe (n : Int) : Int := if n < 0 ∨ n ≥ 17592186044416 then 1 else if okb ((pos 22 n).1 - 1048576) ((pos 22 n).2 - 1048576) = true then 0 else 17
def ofx (n : Int) : Int := if ofe n = 0 then (pos 22 n).1 - 1048576 else 0
def ofy (n : Int) : Int := if ofe n = 0 then (pos 22 n).2 - 1048576 else 0
theorem okb_iff (x y : Int) : okb x y = true ↔ (-1048576 ≤ x ∧ x ≤ 1048576) ∧ (-1048576 ≤ y ∧ y ≤ 1048576) := by
  unfold okb lim
  rw [Bool.and_eq_true, Bool.and_eq_true, beq_iff_eq, beq_iff_eq]
  simp only [and_true]
  omega
theorem ofe_zero {n : Int} (h : ofe n = 0) : (0 ≤ n ∧ n < 17592186044416) ∧ okb ((pos 22 n).1 - 1048576) ((pos 22 n).2 - 1048576) = true := by
  unfold ofe at h
  split at h
  · omega
  · split at h
    · exact ⟨by omega, by assumption⟩
    · omega
theorem ofe_cases {n : Int} (h : 0 ≤ n ∧ n < 17592186044416) : ofe n = 0 ∨ ofe n = 17 := by
  unfold ofe; rw [if_neg (by omega)]; split <;> simp
theorem of_step {n : Int} (h : ofe n = 0) (g : ofe (n + 1) = 0) : dot (lim 1048576 (ofx n)) (lim 1048576 (ofy n)) (lim 1048576 (ofx (n + 1))) (lim 1048576 (ofy (n + 1))) (lim 1048576 (ofx (n + 1))) (lim 1048576 (ofy (n + 1))) = 1 := by
  obtain ⟨a, b⟩ := ofe_zero h
  obtain ⟨a', b'⟩ := ofe_zero g
  have b1 := (okb_iff _ _).1 b
  have b2 := (okb_iff _ _).1 b'
  have s := pos_step 22 (n := n) a.1 (by have : p4 22 = 17592186044416 := by decide
                                         omega)
  unfold ofx ofy
  rw [if_pos h, if_pos h, if_pos g, if_pos g]
  rw [lim_id b1.1.1 b1.1.2, lim_id b1.2.1 b1.2.2, lim_id b2.1.1 b2.1.2, lim_id b2.2.1 b2.2.2]
  unfold nb at s
  unfold dot
  generalize (pos 22 n).1 = p at *; generalize (pos 22 n).2 = q at *; generalize (pos 22 (n + 1)).1 = r at *; generalize (pos 22 (n + 1)).2 = t at *
  rcases s with ⟨rfl, rfl | rfl⟩ | ⟨rfl, rfl | rfl⟩ <;> grind
theorem index_bd (x y : Int) : 0 ≤ index x y ∧ index x y < 17592186044416 := by
  have h1 := lim_bd (m := 1048576) (by decide) x
  have h2 := lim_bd (m := 1048576) (by decide) y
  have e : pw 22 = 4194304 := by decide
  have e4 : p4 22 = 17592186044416 := by decide
  unfold index
  rw [← e4]
  exact idx_bd 22 (by omega) (by omega)
theorem of_index (x y : Int) : ofe (index x y) = 0 ∧ ofx (index x y) = lim 1048576 x ∧ ofy (index x y) = lim 1048576 y := by
  have h1 := lim_bd (m := 1048576) (by decide) x
  have h2 := lim_bd (m := 1048576) (by decide) y
  have e : pw 22 = 4194304 := by decide
  have p : pos 22 (index x y) = (lim 1048576 x + 1048576, lim 1048576 y + 1048576) := by unfold index; exact pos_idx 22 (by omega) (by omega)
  have b := index_bd x y
  have z : ofe (index x y) = 0 := by
    unfold ofe
    rw [if_neg (by omega), if_pos]
    rw [okb_iff, p]
    show (-1048576 ≤ lim 1048576 x + 1048576 - 1048576 ∧ _) ∧ _
    omega
  refine ⟨z, ?_, ?_⟩
  · unfold ofx; rw [if_pos z, p]; show lim 1048576 x + 1048576 - 1048576 = _; omega
  · unfold ofy; rw [if_pos z, p]; show lim 1048576 y + 1048576 - 1048576 = _; omega
theorem index_of {n : Int} (h : ofe n = 0) : index (ofx n) (ofy n) = n := by
  obtain ⟨a, b⟩ := ofe_zero h
  have b1 := (okb_iff _ _).1 b
  have e4 : p4 22 = 17592186044416 := by decide
  unfold index ofx ofy
  rw [if_pos h, if_pos h, lim_id b1.1.1 b1.1.2, lim_id b1.2.1 b1.2.2]
  rw [show (pos 22 n).1 - 1048576 + 1048576 = (pos 22 n).1 by omega, show (pos 22 n).2 - 1048576 + 1048576 = (pos 22 n).2 by omega, idx_pos]
  exact Int.emod_eq_of_lt a.1 (by omega)
theorem index_eq {a b c d : Int} (h : (-1048576 ≤ a ∧ a ≤ 1048576) ∧ (-1048576 ≤ b ∧ b ≤ 1048576) ∧ (-1048576 ≤ c ∧ c ≤ 1048576) ∧ (-1048576 ≤ d ∧ d ≤ 1048576)) :
    (index a b == index c d) = ((a == c) && ((b == d) && true)) := by
  have e : pw 22 = 4194304 := by decide
  rw [Bool.eq_iff_iff, Bool.and_eq_true, Bool.and_eq_true, beq_iff_eq, beq_iff_eq, beq_iff_eq]
  unfold index
  rw [lim_id h.1.1 h.1.2, lim_id h.2.1.1 h.2.1.2, lim_id h.2.2.1.1 h.2.2.1.2, lim_id h.2.2.2.1 h.2.2.2.2, idx_inj (by omega) (by omega) (by omega) (by omega)]
  simp only [and_true]
  omega
theorem squares {a b c d : Int} {k : Nat} (hk : k < 9) (h : (-1048576 ≤ a ∧ a ≤ 1048576) ∧ (-1048576 ≤ b ∧ b ≤ 1048576) ∧ (-1048576 ≤ c ∧ c ≤ 1048576) ∧ (-1048576 ≤ d ∧ d ≤ 1048576)) :
    (index a b / p4 k == index c d / p4 k) = (((a + 1048576) / pw k == (c + 1048576) / pw k) && ((b + 1048576) / pw k == (d + 1048576) / pw k)) := by
  have e : pw 22 = 4194304 := by decide
  obtain ⟨m, hm⟩ : ∃ m, 22 = m + k := ⟨22 - k, by omega⟩
  have ew : pw (m + k) = 4194304 := by rw [← hm, e]
  rw [Bool.eq_iff_iff, Bool.and_eq_true, beq_iff_eq, beq_iff_eq, beq_iff_eq]
  unfold index
  rw [lim_id h.1.1 h.1.2, lim_id h.2.1.1 h.2.1.2, lim_id h.2.2.1.1 h.2.2.1.2, lim_id h.2.2.2.1 h.2.2.2.2]
  rw [hm, idx_div k m (by omega) (by omega), idx_div k m (by omega) (by omega)]
  have q : ∀ {z : Int}, (0 ≤ z ∧ z < pw (m + k)) → 0 ≤ z / pw k ∧ z / pw k < pw m := by
    intro z hz
    have := pw_pos k
    refine ⟨Int.ediv_nonneg hz.1 (by omega), Int.ediv_lt_of_lt_mul this ?_⟩
    rw [← pw_add]; exact hz.2
  rw [idx_inj (q (by omega)) (q (by omega)) (q (by omega)) (q (by omega))]
end Go.Proofs.YtngmegnaohmapaaDoor.Am.Sp

namespace Go.Proofs.YtngmegnaohmapaaDoor.Am.Sp
/-! The document's own way along the curve -/
def lc (px py ax ay dx dy : Int) : Int := (px - ax) * dx + (py - ay) * dy
def Axes (dx dy e_x e_y : Int) : Prop := (dx = 0 ∧ e_y = 0 ∧ (dy = 1 ∨ dy = -1) ∧ (e_x = 1 ∨ e_x = -1)) ∨ (dy = 0 ∧ e_x = 0 ∧ (dx = 1 ∨ dx = -1) ∧ (e_y = 1 ∨ e_y = -1))
def inb (px py qx qy dx dy e_x e_y s : Int) : Bool := decide (lc px py qx qy dx dy ≥ 0) && (decide (lc px py qx qy dx dy < s) && (decide (lc px py qx qy e_x e_y ≥ 0) && decide (lc px py qx qy e_x e_y < s)))
theorem inb_iff (px py qx qy dx dy e_x e_y s : Int) : inb px py qx qy dx dy e_x e_y s = true ↔ (0 ≤ lc px py qx qy dx dy ∧ lc px py qx qy dx dy < s) ∧ (0 ≤ lc px py qx qy e_x e_y ∧ lc px py qx qy e_x e_y < s) := by
  unfold inb
  simp only [Bool.and_eq_true, decide_eq_true_eq]
  omega
theorem axes_bd {dx dy e_x e_y : Int} (h : Axes dx dy e_x e_y) : (-1 ≤ dx ∧ dx ≤ 1) ∧ (-1 ≤ dy ∧ dy ≤ 1) ∧ (-1 ≤ e_x ∧ e_x ≤ 1) ∧ (-1 ≤ e_y ∧ e_y ≤ 1) := by unfold Axes at h; omega
theorem axes_swap {dx dy e_x e_y : Int} (h : Axes dx dy e_x e_y) : Axes e_x e_y dx dy := by unfold Axes at h ⊢; omega
theorem axes_neg {dx dy e_x e_y : Int} (h : Axes dx dy e_x e_y) : Axes (0 - e_x) (0 - e_y) (0 - dx) (0 - dy) := by unfold Axes at h ⊢; omega
theorem lc_at {px py ax ay dx dy e_x e_y M B : Int} (h : Axes dx dy e_x e_y) (hu : 0 ≤ lc px py ax ay dx dy ∧ lc px py ax ay dx dy < M) (hv : 0 ≤ lc px py ax ay e_x e_y ∧ lc px py ax ay e_x e_y < M)
    (hx : -B ≤ px ∧ px ≤ B) (hy : -B ≤ py ∧ py ≤ B) : (-(B + M) ≤ ax ∧ ax ≤ B + M) ∧ (-(B + M) ≤ ay ∧ ay ≤ B + M) := by
  unfold lc at hu hv
  rcases h with ⟨rfl, rfl, rfl | rfl, rfl | rfl⟩ | ⟨rfl, rfl, rfl | rfl, rfl | rfl⟩ <;> omega
theorem lc_up {px py ax ay dx dy e_x e_y s : Int} (h : Axes dx dy e_x e_y) : lc px py (ax + dx * s) (ay + dy * s) dx dy = lc px py ax ay dx dy - s ∧ lc px py (ax + dx * s) (ay + dy * s) e_x e_y = lc px py ax ay e_x e_y := by
  unfold lc
  rcases h with ⟨rfl, rfl, rfl | rfl, rfl | rfl⟩ | ⟨rfl, rfl, rfl | rfl, rfl | rfl⟩ <;> constructor <;> grind
theorem lc_over {px py ax ay dx dy e_x e_y s : Int} (h : Axes dx dy e_x e_y) : lc px py (ax + dx * s + e_x * s) (ay + dy * s + e_y * s) dx dy = lc px py ax ay dx dy - s ∧ lc px py (ax + dx * s + e_x * s) (ay + dy * s + e_y * s) e_x e_y = lc px py ax ay e_x e_y - s := by
  unfold lc
  rcases h with ⟨rfl, rfl, rfl | rfl, rfl | rfl⟩ | ⟨rfl, rfl, rfl | rfl, rfl | rfl⟩ <;> constructor <;> grind
theorem lc_last {px py ax ay dx dy e_x e_y s : Int} (h : Axes dx dy e_x e_y) :
    lc px py (ax + e_x * (2 * s - 1) + dx * (s - 1)) (ay + e_y * (2 * s - 1) + dy * (s - 1)) (0 - e_x) (0 - e_y) = 2 * s - 1 - lc px py ax ay e_x e_y ∧ lc px py (ax + e_x * (2 * s - 1) + dx * (s - 1)) (ay + e_y * (2 * s - 1) + dy * (s - 1)) (0 - dx) (0 - dy) = s - 1 - lc px py ax ay dx dy := by
  unfold lc
  rcases h with ⟨rfl, rfl, rfl | rfl, rfl | rfl⟩ | ⟨rfl, rfl, rfl | rfl, rfl | rfl⟩ <;> constructor <;> grind
/-- one round of the curve, in local coordinates -/
theorem idx_four {i : Nat} {x y : Int} (hx : 0 ≤ x ∧ x < 2 * pw i) (hy : 0 ≤ y ∧ y < 2 * pw i) :
    (x < pw i → y < pw i → idx (i + 1) x y = idx i y x) ∧ (x < pw i → pw i ≤ y → idx (i + 1) x y = p4 i * 1 + idx i x (y - pw i)) ∧
    (pw i ≤ x → pw i ≤ y → idx (i + 1) x y = p4 i * 2 + idx i (x - pw i) (y - pw i)) ∧ (pw i ≤ x → y < pw i → idx (i + 1) x y = p4 i * 3 + idx i (pw i - 1 - y) (2 * pw i - 1 - x)) := by
  have hp := pw_pos i
  have qx := quo01 hp hx
  have qy := quo01 hp hy
  simp only [idx, pw_sq]
  refine ⟨fun a b => ?_, fun a b => ?_, fun a b => ?_, fun a b => ?_⟩
  · obtain ⟨x1, x2, _⟩ := qx.resolve_right (by omega)
    obtain ⟨y1, y2, _⟩ := qy.resolve_right (by omega)
    rw [x1, x2, y1, y2]; simp [dg, tx, ty]
  · obtain ⟨x1, x2, _⟩ := qx.resolve_right (by omega)
    obtain ⟨y1, y2, _⟩ := qy.resolve_left (by omega)
    rw [x1, x2, y1, y2]; simp [dg, tx, ty]
  · obtain ⟨x1, x2, _⟩ := qx.resolve_left (by omega)
    obtain ⟨y1, y2, _⟩ := qy.resolve_left (by omega)
    rw [x1, x2, y1, y2]; simp [dg, tx, ty]
  · obtain ⟨x1, x2, _⟩ := qx.resolve_left (by omega)
    obtain ⟨y1, y2, _⟩ := qy.resolve_right (by omega)
    rw [x1, x2, y1, y2]; simp only [dg, tx, ty]
    rw [show pw i - 1 - (x - pw i) = 2 * pw i - 1 - x by omega]; simp
/-- what holds ahead of a round -/
def Inv (px py N : Int) (j : Nat) (ax ay dx dy e_x e_y n : Int) : Prop :=
  j ≤ 22 ∧ Axes dx dy e_x e_y ∧ (0 ≤ lc px py ax ay dx dy ∧ lc px py ax ay dx dy < pw j) ∧ (0 ≤ lc px py ax ay e_x e_y ∧ lc px py ax ay e_x e_y < pw j) ∧ 0 ≤ n ∧ n * p4 j + idx j (lc px py ax ay e_x e_y) (lc px py ax ay dx dy) = N
theorem inv_open {px py N : Int} {i : Nat} {ax ay dx dy e_x e_y n : Int} (hN : N < 17592186044416) (hx : -1048576 ≤ px ∧ px ≤ 1048576) (hy : -1048576 ≤ py ∧ py ≤ 1048576) (h : Inv px py N (i + 1) ax ay dx dy e_x e_y n) :
    i ≤ 21 ∧ (0 < pw i ∧ pw i ≤ 2097152) ∧ ((-1 ≤ dx ∧ dx ≤ 1) ∧ (-1 ≤ dy ∧ dy ≤ 1) ∧ (-1 ≤ e_x ∧ e_x ≤ 1) ∧ (-1 ≤ e_y ∧ e_y ≤ 1)) ∧ ((-5242880 ≤ ax ∧ ax ≤ 5242880) ∧ (-5242880 ≤ ay ∧ ay ≤ 5242880)) ∧ (0 ≤ n ∧ n ≤ 17592186044416 / 4) := by
  obtain ⟨h1, h2, h3, h4, h5, h6⟩ := h
  have hp := pw_pos i
  have hpm : pw i ≤ pw 21 := pw_mono (by omega)
  have h21 : pw 21 = 2097152 := by decide
  rw [pw_succ] at h3 h4
  have b := lc_at (px := px) (py := py) (ax := ax) (ay := ay) (M := 4194304) (B := 1048576) h2 (by omega) (by omega) hx hy
  have ib := idx_bd (i + 1) (x := lc px py ax ay e_x e_y) (y := lc px py ax ay dx dy) (by rw [pw_succ]; exact h4) (by rw [pw_succ]; exact h3)
  have h4p := p4_pos i
  rw [p4_succ] at h6
  have : n * 4 ≤ n * (4 * p4 i) := Int.mul_le_mul_of_nonneg_left (by omega) h5
  exact ⟨by omega, by omega, axes_bd h2, by omega, by omega⟩
theorem inv_a {px py N : Int} {i : Nat} {ax ay dx dy e_x e_y n : Int} (h : Inv px py N (i + 1) ax ay dx dy e_x e_y n) (g : inb px py ax ay dx dy e_x e_y (pw i) = true) : Inv px py N i ax ay e_x e_y dx dy (n * 4) := by
  obtain ⟨h1, h2, h3, h4, h5, h6⟩ := h
  have k := (inb_iff _ _ _ _ _ _ _ _ _).1 g
  rw [pw_succ] at h3 h4
  have f := (idx_four h4 h3).1 k.2.2 k.1.2
  refine ⟨by omega, axes_swap h2, k.2, k.1, by omega, ?_⟩
  rw [f, p4_succ] at h6
  rw [← h6]; grind
theorem inv_b {px py N : Int} {i : Nat} {ax ay dx dy e_x e_y n : Int} (h : Inv px py N (i + 1) ax ay dx dy e_x e_y n) (g : inb px py (ax + dx * pw i) (ay + dy * pw i) dx dy e_x e_y (pw i) = true) : Inv px py N i (ax + dx * pw i) (ay + dy * pw i) dx dy e_x e_y (n * 4 + 1) := by
  obtain ⟨h1, h2, h3, h4, h5, h6⟩ := h
  have k := (inb_iff _ _ _ _ _ _ _ _ _).1 g
  have l := lc_up (px := px) (py := py) (ax := ax) (ay := ay) (s := pw i) h2
  rw [l.1, l.2] at k
  rw [pw_succ] at h3 h4
  have f := (idx_four h4 h3).2.1 k.2.2 (by omega)
  refine ⟨by omega, h2, by rw [l.1]; exact k.1, by rw [l.2]; exact k.2, by omega, ?_⟩
  rw [l.1, l.2]
  rw [f, p4_succ] at h6
  rw [← h6]; grind
theorem inv_c {px py N : Int} {i : Nat} {ax ay dx dy e_x e_y n : Int} (h : Inv px py N (i + 1) ax ay dx dy e_x e_y n) (g : inb px py (ax + dx * pw i + e_x * pw i) (ay + dy * pw i + e_y * pw i) dx dy e_x e_y (pw i) = true) :
    Inv px py N i (ax + dx * pw i + e_x * pw i) (ay + dy * pw i + e_y * pw i) dx dy e_x e_y (n * 4 + 2) := by
  obtain ⟨h1, h2, h3, h4, h5, h6⟩ := h
  have k := (inb_iff _ _ _ _ _ _ _ _ _).1 g
  have l := lc_over (px := px) (py := py) (ax := ax) (ay := ay) (s := pw i) h2
  rw [l.1, l.2] at k
  rw [pw_succ] at h3 h4
  have f := (idx_four h4 h3).2.2.1 (by omega) (by omega)
  refine ⟨by omega, h2, by rw [l.1]; exact k.1, by rw [l.2]; exact k.2, by omega, ?_⟩
  rw [l.1, l.2]
  rw [f, p4_succ] at h6
  rw [← h6]; grind
theorem inv_d {px py N : Int} {i : Nat} {ax ay dx dy e_x e_y n : Int} (h : Inv px py N (i + 1) ax ay dx dy e_x e_y n) (g1 : inb px py ax ay dx dy e_x e_y (pw i) = false)
    (g2 : inb px py (ax + dx * pw i) (ay + dy * pw i) dx dy e_x e_y (pw i) = false) (g3 : inb px py (ax + dx * pw i + e_x * pw i) (ay + dy * pw i + e_y * pw i) dx dy e_x e_y (pw i) = false) :
    Inv px py N i (ax + e_x * (2 * pw i - 1) + dx * (pw i - 1)) (ay + e_y * (2 * pw i - 1) + dy * (pw i - 1)) (0 - e_x) (0 - e_y) (0 - dx) (0 - dy) (n * 4 + 3) := by
  obtain ⟨h1, h2, h3, h4, h5, h6⟩ := h
  have k1 := fun q => Bool.eq_false_iff.1 g1 ((inb_iff px py ax ay dx dy e_x e_y (pw i)).2 q)
  have k2 := fun q => Bool.eq_false_iff.1 g2 ((inb_iff _ _ _ _ _ _ _ _ _).2 q)
  have k3 := fun q => Bool.eq_false_iff.1 g3 ((inb_iff _ _ _ _ _ _ _ _ _).2 q)
  have l1 := lc_up (px := px) (py := py) (ax := ax) (ay := ay) (s := pw i) h2
  have l2 := lc_over (px := px) (py := py) (ax := ax) (ay := ay) (s := pw i) h2
  have l := lc_last (px := px) (py := py) (ax := ax) (ay := ay) (s := pw i) h2
  rw [l1.1, l1.2] at k2
  rw [l2.1, l2.2] at k3
  rw [pw_succ] at h3 h4
  have hv : pw i ≤ lc px py ax ay e_x e_y := by
    rcases Int.lt_or_le (lc px py ax ay e_x e_y) (pw i) with q | q
    · rcases Int.lt_or_le (lc px py ax ay dx dy) (pw i) with r | r
      · exact absurd ⟨⟨h3.1, r⟩, h4.1, q⟩ k1
      · exact absurd ⟨⟨by omega, by omega⟩, h4.1, q⟩ k2
    · exact q
  have hu : lc px py ax ay dx dy < pw i := by
    rcases Int.lt_or_le (lc px py ax ay dx dy) (pw i) with r | r
    · exact r
    · exact absurd ⟨⟨by omega, by omega⟩, by omega, by omega⟩ k3
  have f := (idx_four h4 h3).2.2.2 hv hu
  refine ⟨by omega, axes_neg h2, by rw [l.1]; omega, by rw [l.2]; omega, by omega, ?_⟩
  rw [l.1, l.2]
  rw [f, p4_succ] at h6
  rw [← h6]; grind
theorem inv_start (x y : Int) : Inv (lim 1048576 x) (lim 1048576 y) (index x y) 22 (-1048576) (-1048576) 0 1 1 0 0 := by
  have h1 := lim_bd (m := 1048576) (by decide) x
  have h2 := lim_bd (m := 1048576) (by decide) y
  have e : pw 22 = 4194304 := by decide
  have e1 : lc (lim 1048576 x) (lim 1048576 y) (-1048576) (-1048576) 0 1 = lim 1048576 y + 1048576 := by unfold lc; omega
  have e2 : lc (lim 1048576 x) (lim 1048576 y) (-1048576) (-1048576) 1 0 = lim 1048576 x + 1048576 := by unfold lc; omega
  refine ⟨by omega, .inl ⟨rfl, rfl, .inl rfl, .inl rfl⟩, by rw [e1]; omega, by rw [e2]; omega, by omega, ?_⟩
  rw [e1, e2, Int.zero_mul, Int.zero_add]; rfl
theorem inv_end {px py N : Int} {j : Nat} {ax ay dx dy e_x e_y n : Int} (h : Inv px py N j ax ay dx dy e_x e_y n) (g : ¬ pw j > 1) : n = N := by
  cases j with
  | zero =>
    obtain ⟨_, _, _, _, _, h6⟩ := h
    have : p4 0 = 1 := rfl
    rw [this] at h6; simp only [idx] at h6; omega
  | succ j => have := pw_pos j; rw [pw_succ] at g; omega
theorem ofe_out {n : Int} (h : n < 0 ∨ n ≥ 17592186044416) : ofe n = 1 := by unfold ofe; rw [if_pos h]
theorem ofxy_nz {n : Int} (h : ¬ ofe n = 0) : ofx n = 0 ∧ ofy n = 0 := by unfold ofx ofy; exact ⟨if_neg h, if_neg h⟩
theorem pw_two {j : Nat} (h : pw j > 1) : ∃ i, j = i + 1 ∧ pw j / 2 = pw i := by
  cases j with
  | zero => exact absurd h (by decide)
  | succ i => exact ⟨i, rfl, by rw [pw_succ]; omega⟩
end Go.Proofs.YtngmegnaohmapaaDoor.Am.Sp

namespace Go.Proofs.YtngmegnaohmapaaDoor.Am.Sp
/-! Boxes -/
def mn (a b : Int) : Int := if b < a then b else a
def mx (a b : Int) : Int := if b > a then b else a
def inbox (lx ly hx hy px py : Int) : Bool := decide (lx ≤ px) && (decide (px ≤ hx) && (decide (ly ≤ py) && decide (py ≤ hy)))
def bok (lx ly hx hy : Int) : Bool := okb lx ly && (okb hx hy && (decide (lx ≤ hx) && decide (ly ≤ hy)))
theorem bok_valid (lx ly hx hy : Int) : (okb lx ly && (okb hx hy && (inbox lx ly hx hy lx ly && inbox lx ly hx hy hx hy))) = bok lx ly hx hy := by
  unfold bok inbox
  by_cases h1 : lx ≤ hx <;> by_cases h2 : ly ≤ hy <;> simp [h1, h2]
def meet (a b c d e f g h : Int) : Bool := inbox a b c d (mx a e) (mx b f) && inbox e f g h (mx a e) (mx b f)
theorem meet_eq (a b c d e f g h : Int) : meet a b c d e f g h = (decide (mx a e ≤ mn c g) && decide (mx b f ≤ mn d h)) := by
  unfold meet inbox mx mn
  rw [Bool.eq_iff_iff]
  simp only [Bool.and_eq_true, decide_eq_true_eq]
  (repeat' split) <;> omega
/-- the box of the first points of a list -/
def bxo (ps : List (Int × Int)) : Nat → Int × Int × Int × Int
  | 0 => (0, 0, 0, 0)
  | i + 1 =>
    let x := lim 1048576 (ps.getD i (0, 0)).1
    let y := lim 1048576 (ps.getD i (0, 0)).2
    let b := if i = 0 then (x, y, x, y) else bxo ps i
    (mn b.1 x, mn b.2.1 y, mx b.2.2.1 x, mx b.2.2.2 y)
theorem bxo_first {ps : List (Int × Int)} {i : Nat} (h : i = 0) : bxo ps (i + 1) = (mn (lim 1048576 (ps.getD i (0, 0)).1) (lim 1048576 (ps.getD i (0, 0)).1), mn (lim 1048576 (ps.getD i (0, 0)).2) (lim 1048576 (ps.getD i (0, 0)).2), mx (lim 1048576 (ps.getD i (0, 0)).1) (lim 1048576 (ps.getD i (0, 0)).1), mx (lim 1048576 (ps.getD i (0, 0)).2) (lim 1048576 (ps.getD i (0, 0)).2)) := by
  subst h; rfl
theorem bxo_next {ps : List (Int × Int)} {i : Nat} (h : ¬ i = 0) : bxo ps (i + 1) = (mn (bxo ps i).1 (lim 1048576 (ps.getD i (0, 0)).1), mn (bxo ps i).2.1 (lim 1048576 (ps.getD i (0, 0)).2), mx (bxo ps i).2.2.1 (lim 1048576 (ps.getD i (0, 0)).1), mx (bxo ps i).2.2.2 (lim 1048576 (ps.getD i (0, 0)).2)) := by
  simp only [bxo, if_neg h]
end Go.Proofs.YtngmegnaohmapaaDoor.Am.Sp

