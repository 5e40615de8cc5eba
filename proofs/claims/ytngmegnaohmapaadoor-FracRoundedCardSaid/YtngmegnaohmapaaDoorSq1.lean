import Derived.Test.YtngmegnaohmapaaDoorSp6
set_option linter.unusedVariables false
set_option linter.unusedSimpArgs false
namespace Go.Proofs.YtngmegnaohmapaaDoor.Am.Sp
/-! Segments -/
def has2 (l : List (Int × Int)) (px py : Int) : Bool := l.any (fun z => z.1 == px && (z.2 == py && true))
def addb (l : List (Int × Int)) (px py qx qy rx ry : Int) : Bool := onb qx qy rx ry px py && !(has2 l px py)
def addp (l : List (Int × Int)) (px py qx qy rx ry : Int) : List (Int × Int) := if addb l px py qx qy rx ry = true then l ++ [(px, py)] else l
/-- the ends of two segments that are on both -/
def shr (ax ay bx b_y cx cy dx dy : Int) : List (Int × Int) :=
  addp (addp (addp (addp [] ax ay cx cy dx dy) bx b_y cx cy dx dy) cx cy ax ay bx b_y) dx dy ax ay bx b_y
/-- two segments cross between their ends -/
def prp (ax ay bx b_y cx cy dx dy : Int) : Bool :=
  decide (cmp (crs ax ay bx b_y cx cy) 0 * cmp (crs ax ay bx b_y dx dy) 0 < 0) && decide (cmp (crs cx cy dx dy ax ay) 0 * cmp (crs cx cy dx dy bx b_y) 0 < 0)
def meetN (ax ay bx b_y cx cy dx dy : Int) : Int :=
  if prp ax ay bx b_y cx cy dx dy = true then 1 else mn 2 ((shr ax ay bx b_y cx cy dx dy).length : Int)
theorem addp_y {l px py qx qy rx ry} (h : addb l px py qx qy rx ry = true) : addp l px py qx qy rx ry = l ++ [(px, py)] := by unfold addp; rw [if_pos h]
theorem addp_n {l px py qx qy rx ry} (h : addb l px py qx qy rx ry = false) : addp l px py qx qy rx ry = l := by unfold addp; rw [if_neg (by rw [h]; decide)]
theorem has2_iff (l : List (Int × Int)) (px py : Int) : has2 l px py = true ↔ (px, py) ∈ l := by
  unfold has2
  rw [List.any_eq_true]
  constructor
  · rintro ⟨⟨x, y⟩, hm, h⟩
    simp only [Bool.and_true, Bool.and_eq_true, beq_iff_eq] at h
    obtain ⟨rfl, rfl⟩ := h; exact hm
  · intro h; exact ⟨_, h, by simp⟩
theorem mem_addp {l : List (Int × Int)} {px py qx qy rx ry : Int} {z : Int × Int} : z ∈ addp l px py qx qy rx ry ↔ z ∈ l ∨ (z = (px, py) ∧ onb qx qy rx ry px py = true) := by
  unfold addp addb
  cases h1 : onb qx qy rx ry px py <;> cases h2 : has2 l px py <;> simp
  rw [has2_iff] at h2
  intro h; rw [h]; exact h2
theorem nodup_addp {l : List (Int × Int)} {px py qx qy rx ry : Int} (h : l.Nodup) : (addp l px py qx qy rx ry).Nodup := by
  unfold addp
  split
  · next hb =>
    rw [List.nodup_append]
    refine ⟨h, by simp, ?_⟩
    intro a ha b hb' e
    unfold addb at hb
    simp only [List.mem_singleton] at hb'
    subst hb'; subst e
    rw [(has2_iff ..).2 ha] at hb; simp at hb
  · exact h
theorem mem_shr {ax ay bx b_y cx cy dx dy : Int} {z : Int × Int} : z ∈ shr ax ay bx b_y cx cy dx dy ↔
    (z = (ax, ay) ∧ onb cx cy dx dy ax ay = true) ∨ (z = (bx, b_y) ∧ onb cx cy dx dy bx b_y = true) ∨ (z = (cx, cy) ∧ onb ax ay bx b_y cx cy = true) ∨ (z = (dx, dy) ∧ onb ax ay bx b_y dx dy = true) := by
  unfold shr; simp only [mem_addp]; simp [or_assoc]
theorem nodup_shr (ax ay bx b_y cx cy dx dy : Int) : (shr ax ay bx b_y cx cy dx dy).Nodup := by
  unfold shr; exact nodup_addp (nodup_addp (nodup_addp (nodup_addp List.nodup_nil)))
theorem shr_on {ax ay bx b_y cx cy dx dy : Int} {x y : Int} (h : (x, y) ∈ shr ax ay bx b_y cx cy dx dy) : onb ax ay bx b_y x y = true ∧ onb cx cy dx dy x y = true := by
  rw [mem_shr] at h
  rcases h with ⟨e, h⟩ | ⟨e, h⟩ | ⟨e, h⟩ | ⟨e, h⟩ <;> (cases e) <;> simp only [h, onb_a, onb_b, and_self]
theorem sgn_mul_le (x y : Int) : sgn x * sgn y ≤ 0 ↔ x * y ≤ 0 := by
  unfold sgn
  rcases Int.lt_trichotomy x 0 with h | h | h <;> rcases Int.lt_trichotomy y 0 with k | k | k
  · have := Int.mul_pos_of_neg_of_neg h k; simp [h, k]; omega
  · subst k; simp
  · have := Int.mul_neg_of_neg_of_pos h k; simp [h, k, show ¬ y < 0 by omega]; omega
  · subst h; simp
  · subst h; simp
  · subst h; simp
  · have := Int.mul_neg_of_pos_of_neg h k; simp [h, k, show ¬ x < 0 by omega]; omega
  · subst k; simp
  · have := Int.mul_pos h k; simp [h, k, show ¬ x < 0 by omega, show ¬ y < 0 by omega]; omega
theorem sgn_mul_lt (x y : Int) : sgn x * sgn y < 0 ↔ x * y < 0 := by
  unfold sgn
  rcases Int.lt_trichotomy x 0 with h | h | h <;> rcases Int.lt_trichotomy y 0 with k | k | k
  · have := Int.mul_pos_of_neg_of_neg h k; simp [h, k]; omega
  · subst k; simp
  · have := Int.mul_neg_of_neg_of_pos h k; simp [h, k, show ¬ y < 0 by omega]; omega
  · subst h; simp
  · subst h; simp
  · subst h; simp
  · have := Int.mul_neg_of_pos_of_neg h k; simp [h, k, show ¬ x < 0 by omega]; omega
  · subst k; simp
  · have := Int.mul_pos h k; simp [h, k, show ¬ x < 0 by omega, show ¬ y < 0 by omega]; omega
theorem cmp_mul_lt (x y : Int) : cmp x 0 * cmp y 0 < 0 ↔ x * y < 0 := by
  have e : ∀ z, cmp z 0 = sgn z := fun z => by unfold cmp sgn; (repeat' split) <;> omega
  rw [e, e, sgn_mul_lt]
theorem prp_iff (ax ay bx b_y cx cy dx dy : Int) : prp ax ay bx b_y cx cy dx dy = true ↔ crs ax ay bx b_y cx cy * crs ax ay bx b_y dx dy < 0 ∧ crs cx cy dx dy ax ay * crs cx cy dx dy bx b_y < 0 := by
  unfold prp; rw [Bool.and_eq_true, decide_eq_true_eq, decide_eq_true_eq, cmp_mul_lt, cmp_mul_lt]
theorem par_btw {ux uy vx vy wx wy : Int} (h : ux * vy - uy * vx = 0) (hd : ux * vx + uy * vy ≤ 0) : (wx * uy - wy * ux) * (wx * vy - wy * vx) ≤ 0 := by
  by_cases hu : ux = 0 ∧ uy = 0
  · obtain ⟨rfl, rfl⟩ := hu; simp
  · have hp : 0 < ux * ux + uy * uy := by
      have a := sqr_nonneg ux; have b := sqr_nonneg uy
      rcases (show ux ≠ 0 ∨ uy ≠ 0 by omega) with k | k
      · have : 0 < ux * ux := by rcases Int.lt_or_lt_of_ne k with q | q; exact Int.mul_pos_of_neg_of_neg q q; exact Int.mul_pos q q
        omega
      · have : 0 < uy * uy := by rcases Int.lt_or_lt_of_ne k with q | q; exact Int.mul_pos_of_neg_of_neg q q; exact Int.mul_pos q q
        omega
    have e : (ux * ux + uy * uy) * ((wx * uy - wy * ux) * (wx * vy - wy * vx)) = (ux * vx + uy * vy) * ((wx * uy - wy * ux) * (wx * uy - wy * ux)) := by grind
    have n := Int.mul_nonpos_of_nonpos_of_nonneg hd (sqr_nonneg (wx * uy - wy * ux))
    rw [← e] at n
    generalize (wx * uy - wy * ux) * (wx * vy - wy * vx) = P at *
    generalize ux * ux + uy * uy = Q at *
    rcases Int.lt_or_le 0 P with k | k
    · have := Int.mul_pos hp k; omega
    · exact k
theorem btw_par {ux uy vx vy wx wy : Int} (h : ux * vy - uy * vx = 0) (hp : (wx * uy - wy * ux) * (wx * vy - wy * vx) ≤ 0) (hne : wx * uy - wy * ux ≠ wx * vy - wy * vx) : ux * vx + uy * vy ≤ 0 := by
  have e1 : (ux * ux + uy * uy) * ((wx * uy - wy * ux) * (wx * vy - wy * vx)) = (ux * vx + uy * vy) * ((wx * uy - wy * ux) * (wx * uy - wy * ux)) := by grind
  have e2 : (vx * vx + vy * vy) * ((wx * uy - wy * ux) * (wx * vy - wy * vx)) = (ux * vx + uy * vy) * ((wx * vy - wy * vx) * (wx * vy - wy * vx)) := by grind
  have n1 : 0 ≤ ux * ux + uy * uy := by have := sqr_nonneg ux; have := sqr_nonneg uy; omega
  have n2 : 0 ≤ vx * vx + vy * vy := by have := sqr_nonneg vx; have := sqr_nonneg vy; omega
  have m1 := Int.mul_nonpos_of_nonneg_of_nonpos n1 hp
  have m2 := Int.mul_nonpos_of_nonneg_of_nonpos n2 hp
  rw [e1] at m1; rw [e2] at m2
  clear e1 e2 n1 n2 hp h
  generalize wx * uy - wy * ux = A at *
  generalize wx * vy - wy * vx = B at *
  generalize ux * vx + uy * vy = D at *
  rcases Int.lt_or_le 0 D with k | k
  · exfalso
    rcases (show A ≠ 0 ∨ B ≠ 0 by omega) with q | q
    · have : 0 < A * A := by rcases Int.lt_or_lt_of_ne q with q | q; exact Int.mul_pos_of_neg_of_neg q q; exact Int.mul_pos q q
      have := Int.mul_pos k this; omega
    · have : 0 < B * B := by rcases Int.lt_or_lt_of_ne q with q | q; exact Int.mul_pos_of_neg_of_neg q q; exact Int.mul_pos q q
      have := Int.mul_pos k this; omega
  · exact k
/-- the cross product of the directions of two segments -/
def den4 (ax ay bx b_y cx cy dx dy : Int) : Int := (bx - ax) * (dy - cy) - (b_y - ay) * (dx - cx)
theorem den_ab (ax ay bx b_y cx cy dx dy : Int) : crs ax ay bx b_y dx dy - crs ax ay bx b_y cx cy = den4 ax ay bx b_y cx cy dx dy := by unfold crs den4; grind
theorem den_cd (ax ay bx b_y cx cy dx dy : Int) : crs cx cy dx dy ax ay - crs cx cy dx dy bx b_y = den4 ax ay bx b_y cx cy dx dy := by unfold crs den4; grind
theorem crs_cd (ax ay bx b_y cx cy : Int) : crs ax ay bx b_y cx cy = (ax - cx) * (b_y - cy) - (ay - cy) * (bx - cx) := by unfold crs; grind
/-- a point between two others is between them seen from any line through it -/
theorem on_prod {ax ay bx b_y px py qx qy : Int} (h : onb ax ay bx b_y px py = true) : crs px py qx qy ax ay * crs px py qx qy bx b_y ≤ 0 := by
  rw [onb_iff] at h
  obtain ⟨h1, h2⟩ := h
  rw [crs_cd] at h1
  unfold dot at h2
  exact par_btw h1 h2 (wx := qx - px) (wy := qy - py)
theorem prod_on {ax ay bx b_y px py qx qy : Int} (h : crs ax ay bx b_y px py = 0) (hp : crs px py qx qy ax ay * crs px py qx qy bx b_y ≤ 0) (hne : crs px py qx qy ax ay ≠ crs px py qx qy bx b_y) : onb ax ay bx b_y px py = true := by
  rw [onb_iff]
  refine ⟨h, ?_⟩
  rw [crs_cd] at h
  unfold dot
  exact btw_par h hp hne
theorem two_lines {ax ay bx b_y cx cy dx dy x y u v : Int} (hd : den4 ax ay bx b_y cx cy dx dy ≠ 0) (h1 : crs ax ay bx b_y x y = 0) (h2 : crs cx cy dx dy x y = 0) (k1 : crs ax ay bx b_y u v = 0) (k2 : crs cx cy dx dy u v = 0) : x = u ∧ y = v := by
  have e1 : den4 ax ay bx b_y cx cy dx dy * (x - u) = 0 := by unfold den4; unfold crs at *; grind
  have e2 : den4 ax ay bx b_y cx cy dx dy * (y - v) = 0 := by unfold den4; unfold crs at *; grind
  rcases Int.mul_eq_zero.1 e1 with h | h
  · exact absurd h hd
  · rcases Int.mul_eq_zero.1 e2 with k | k
    · exact absurd k hd
    · omega
/-- the document's count -/
def crossing (ax ay bx b_y cx cy dx dy : Int) : Bool :=
  decide (sgn (crs ax ay bx b_y cx cy) * sgn (crs ax ay bx b_y dx dy) ≤ 0) && decide (sgn (crs cx cy dx dy ax ay) * sgn (crs cx cy dx dy bx b_y) ≤ 0)
theorem crossing_iff (ax ay bx b_y cx cy dx dy : Int) : crossing ax ay bx b_y cx cy dx dy = true ↔ crs ax ay bx b_y cx cy * crs ax ay bx b_y dx dy ≤ 0 ∧ crs cx cy dx dy ax ay * crs cx cy dx dy bx b_y ≤ 0 := by
  unfold crossing; rw [Bool.and_eq_true, decide_eq_true_eq, decide_eq_true_eq, sgn_mul_le, sgn_mul_le]
theorem on_cross {ax ay bx b_y cx cy dx dy : Int} {x y : Int} (h1 : onb ax ay bx b_y x y = true) (h2 : onb cx cy dx dy x y = true) (hx : (x = ax ∧ y = ay) ∨ (x = bx ∧ y = b_y) ∨ (x = cx ∧ y = cy) ∨ (x = dx ∧ y = dy)) : crossing ax ay bx b_y cx cy dx dy = true := by
  rw [crossing_iff]
  rcases hx with ⟨rfl, rfl⟩ | ⟨rfl, rfl⟩ | ⟨rfl, rfl⟩ | ⟨rfl, rfl⟩
  · exact ⟨on_prod h2, by rw [onb_crs h2]; simp⟩
  · refine ⟨?_, by rw [onb_crs h2]; simp⟩
    have := on_prod (qx := ax) (qy := ay) h2
    rw [crs_anti ax ay, crs_anti ax ay x y dx dy]; simpa [Int.neg_mul_neg] using this
  · exact ⟨by rw [onb_crs h1]; simp, on_prod h1⟩
  · refine ⟨by rw [onb_crs h1]; simp, ?_⟩
    have := on_prod (qx := cx) (qy := cy) h1
    rw [crs_anti cx cy, crs_anti cx cy x y bx b_y]; simpa [Int.neg_mul_neg] using this
theorem cross_on {ax ay bx b_y cx cy dx dy : Int} (hd : den4 ax ay bx b_y cx cy dx dy ≠ 0) (hc : crossing ax ay bx b_y cx cy dx dy = true) (hp : prp ax ay bx b_y cx cy dx dy = false) : ∃ z, z ∈ shr ax ay bx b_y cx cy dx dy := by
  rw [crossing_iff] at hc
  have hn : ¬ (crs ax ay bx b_y cx cy * crs ax ay bx b_y dx dy < 0 ∧ crs cx cy dx dy ax ay * crs cx cy dx dy bx b_y < 0) := by rw [← prp_iff, hp]; decide
  have e1 := den_ab ax ay bx b_y cx cy dx dy
  have e2 := den_cd ax ay bx b_y cx cy dx dy
  have z : crs ax ay bx b_y cx cy = 0 ∨ crs ax ay bx b_y dx dy = 0 ∨ crs cx cy dx dy ax ay = 0 ∨ crs cx cy dx dy bx b_y = 0 := by
    rcases (show crs ax ay bx b_y cx cy * crs ax ay bx b_y dx dy = 0 ∨ crs cx cy dx dy ax ay * crs cx cy dx dy bx b_y = 0 by omega) with h | h
    · rcases Int.mul_eq_zero.1 h with h | h <;> simp [h]
    · rcases Int.mul_eq_zero.1 h with h | h <;> simp [h]
  rcases z with h | h | h | h
  · exact ⟨(cx, cy), mem_shr.2 (.inr (.inr (.inl ⟨rfl, prod_on h hc.2 (by omega)⟩)))⟩
  · refine ⟨(dx, dy), mem_shr.2 (.inr (.inr (.inr ⟨rfl, prod_on (qx := cx) (qy := cy) h ?_ ?_⟩)))⟩
    · have := hc.2; rw [crs_anti cx cy, crs_anti cx cy dx dy bx b_y] at this; simpa [Int.neg_mul_neg] using this
    · have a := crs_anti cx cy dx dy ax ay; have b := crs_anti cx cy dx dy bx b_y; omega
  · exact ⟨(ax, ay), mem_shr.2 (.inl ⟨rfl, prod_on h hc.1 (by omega)⟩)⟩
  · refine ⟨(bx, b_y), mem_shr.2 (.inr (.inl ⟨rfl, prod_on (qx := ax) (qy := ay) h ?_ ?_⟩))⟩
    · have := hc.1; rw [crs_anti ax ay, crs_anti ax ay bx b_y dx dy] at this; simpa [Int.neg_mul_neg] using this
    · have a := crs_anti ax ay bx b_y cx cy; have b := crs_anti ax ay bx b_y dx dy; omega
theorem shr_cross {ax ay bx b_y cx cy dx dy : Int} {z : Int × Int} (h : z ∈ shr ax ay bx b_y cx cy dx dy) : crossing ax ay bx b_y cx cy dx dy = true := by
  obtain ⟨x, y⟩ := z
  obtain ⟨h1, h2⟩ := shr_on h
  refine on_cross h1 h2 ?_
  rw [mem_shr] at h
  rcases h with ⟨e, _⟩ | ⟨e, _⟩ | ⟨e, _⟩ | ⟨e, _⟩ <;> (cases e) <;> simp
theorem shr_one {ax ay bx b_y cx cy dx dy : Int} (hd : den4 ax ay bx b_y cx cy dx dy ≠ 0) : (shr ax ay bx b_y cx cy dx dy).length ≤ 1 := by
  have hn := nodup_shr ax ay bx b_y cx cy dx dy
  match e : shr ax ay bx b_y cx cy dx dy with
  | [] => simp
  | [_] => simp
  | (x, y) :: (u, v) :: r =>
    exfalso
    have h1 := shr_on (show (x, y) ∈ shr ax ay bx b_y cx cy dx dy by rw [e]; simp)
    have h2 := shr_on (show (u, v) ∈ shr ax ay bx b_y cx cy dx dy by rw [e]; simp)
    have := two_lines hd (onb_crs h1.1) (onb_crs h1.2) (onb_crs h2.1) (onb_crs h2.2)
    rw [e] at hn
    simp [this.1, this.2] at hn
theorem prp_den {ax ay bx b_y cx cy dx dy : Int} (h : prp ax ay bx b_y cx cy dx dy = true) : den4 ax ay bx b_y cx cy dx dy ≠ 0 := by
  rw [prp_iff] at h
  have e := den_ab ax ay bx b_y cx cy dx dy
  intro k
  rw [k] at e
  have : crs ax ay bx b_y dx dy = crs ax ay bx b_y cx cy := by omega
  rw [this] at h
  have := sqr_nonneg (crs ax ay bx b_y cx cy)
  omega
def rsh (ax ay bx b_y cx cy dx dy : Int) : Int :=
  if den4 ax ay bx b_y cx cy dx dy ≠ 0 then (if crossing ax ay bx b_y cx cy dx dy = true then 1 else 0) else mn 2 ((shr ax ay bx b_y cx cy dx dy).length : Int)
theorem prp_shr {ax ay bx b_y cx cy dx dy : Int} (h : prp ax ay bx b_y cx cy dx dy = true) : shr ax ay bx b_y cx cy dx dy = [] := by
  have hp := (prp_iff ..).1 h
  match e : shr ax ay bx b_y cx cy dx dy with
  | [] => rfl
  | z :: r =>
    exfalso
    have h1 : z ∈ shr ax ay bx b_y cx cy dx dy := by rw [e]; simp
    rw [mem_shr] at h1
    rcases h1 with ⟨_, q⟩ | ⟨_, q⟩ | ⟨_, q⟩ | ⟨_, q⟩ <;> (rw [onb_crs q] at hp; simp at hp)
theorem rsh_eq (ax ay bx b_y cx cy dx dy : Int) : rsh ax ay bx b_y cx cy dx dy = meetN ax ay bx b_y cx cy dx dy := by
  unfold rsh meetN
  by_cases hd : den4 ax ay bx b_y cx cy dx dy = 0
  · rw [if_neg (by simpa using hd), if_neg (fun h => prp_den h hd)]
  · rw [if_pos hd]
    cases hp : prp ax ay bx b_y cx cy dx dy with
    | true =>
      rw [if_pos rfl, if_pos]
      rw [crossing_iff]; rw [prp_iff] at hp; omega
    | false =>
      rw [if_neg (show ¬ false = true by decide)]
      have h1 := shr_one hd
      cases hc : crossing ax ay bx b_y cx cy dx dy with
      | true =>
        rw [if_pos rfl]
        obtain ⟨z, hz⟩ := cross_on hd hc hp
        have := List.length_pos_of_mem hz
        have e : (shr ax ay bx b_y cx cy dx dy).length = 1 := by omega
        rw [e]; rfl
      | false =>
        rw [if_neg (show ¬ false = true by decide)]
        match e : shr ax ay bx b_y cx cy dx dy with
        | [] => rfl
        | z :: r => have := shr_cross (show z ∈ shr ax ay bx b_y cx cy dx dy by rw [e]; simp); rw [hc] at this; cases this
end Go.Proofs.YtngmegnaohmapaaDoor.Am.Sp

