import Derived.Test.YtngmegnaohmapaaDoorSq1
set_option linter.unusedVariables false
set_option linter.unusedSimpArgs false
namespace Go.Proofs.YtngmegnaohmapaaDoor.Am.Sp
/-! What the counts of common points need, without places -/
theorem addb_on {l px py qx qy rx ry} (h : addb l px py qx qy rx ry = true) : onb qx qy rx ry px py = true := by
  unfold addb at h; rw [Bool.and_eq_true] at h; exact h.1
theorem addb_no {l px py qx qy rx ry} (h : addb l px py qx qy rx ry = true) : has2 l px py = false := by
  unfold addb at h; rw [Bool.and_eq_true] at h; simpa using h.2
theorem has2_mem {l : List (Int × Int)} {x y px py : Int} (hm : (x, y) ∈ l) (h : has2 l px py = false) : ((x == px) && ((y == py) && true)) = false := by
  unfold has2 at h
  rw [List.any_eq_false] at h
  have := h _ hm
  simpa using this
theorem cmp3 (ax ay bx b_y cx cy dx dy : Int) : (-1 ≤ cmp (crs ax ay bx b_y cx cy) 0 * cmp (crs ax ay bx b_y dx dy) 0 ∧ cmp (crs ax ay bx b_y cx cy) 0 * cmp (crs ax ay bx b_y dx dy) 0 ≤ 1) ∧
    (-1 ≤ cmp (crs cx cy dx dy ax ay) 0 * cmp (crs cx cy dx dy bx b_y) 0 ∧ cmp (crs cx cy dx dy ax ay) 0 * cmp (crs cx cy dx dy bx b_y) 0 ≤ 1) := by
  have a := cmp_bd (crs ax ay bx b_y cx cy) 0
  have b := cmp_bd (crs ax ay bx b_y dx dy) 0
  have c := cmp_bd (crs cx cy dx dy ax ay) 0
  have d := cmp_bd (crs cx cy dx dy bx b_y) 0
  have p := mul_bd a.1 a.2 b.1 b.2
  have q := mul_bd c.1 c.2 d.1 d.2
  omega
def ix2 : List (Int × Int) → Int → Int → Int
  | [], _, _ => -1
  | z :: r, px, py => if (px == z.1 && (py == z.2 && true)) = true then 0 else if ix2 r px py < 0 then -1 else ix2 r px py + 1
theorem ix2_hit {x y px py : Int} (r : List (Int × Int)) (h : (px == x && (py == y && true)) = true) : ix2 ((x, y) :: r) px py = 0 := by unfold ix2; rw [if_pos h]
theorem ix2_miss {x y px py : Int} (r : List (Int × Int)) (h : (px == x && (py == y && true)) = false) : ix2 ((x, y) :: r) px py = if ix2 r px py < 0 then -1 else ix2 r px py + 1 := by
  show (if (px == x && (py == y && true)) = true then 0 else if ix2 r px py < 0 then -1 else ix2 r px py + 1) = _
  rw [h]; rfl
theorem ix2_lo (l : List (Int × Int)) (px py : Int) : -1 ≤ ix2 l px py := by
  induction l with
  | nil => simp [ix2]
  | cons z r ih => unfold ix2; split; omega; split <;> omega
theorem ix2_has (l : List (Int × Int)) (px py : Int) : decide (ix2 l px py ≥ 0) = has2 l px py := by
  induction l with
  | nil => rfl
  | cons z r ih =>
    unfold ix2
    have e : has2 (z :: r) px py = ((z.1 == px && (z.2 == py && true)) || has2 r px py) := rfl
    rw [e, ← ih]
    have c : (px == z.1 && (py == z.2 && true)) = (z.1 == px && (z.2 == py && true)) := by
      rw [Bool.eq_iff_iff]; simp; constructor <;> (rintro ⟨rfl, rfl⟩; exact ⟨rfl, rfl⟩)
    rw [c]
    have lo := ix2_lo r px py
    cases (z.1 == px && (z.2 == py && true)) with
    | true => simp
    | false =>
      rw [if_neg (by decide), Bool.false_or, Bool.eq_iff_iff, decide_eq_true_eq, decide_eq_true_eq]
      split <;> omega
theorem addb_has {l px py qx qy rx ry} (h : addb l px py qx qy rx ry = false) (k : onb qx qy rx ry px py = true) : has2 l px py = true := by
  unfold addb at h; rw [k] at h; simpa using h
def crossN (ax ay bx b_y cx cy dx dy : Int) : Int := if crossing ax ay bx b_y cx cy dx dy = true then 1 else 0
theorem rsh_den {ax ay bx b_y cx cy dx dy : Int} (h : den4 ax ay bx b_y cx cy dx dy ≠ 0) : crossN ax ay bx b_y cx cy dx dy = meetN ax ay bx b_y cx cy dx dy := by
  rw [← rsh_eq]; unfold rsh; rw [if_pos h]; rfl
theorem rsh_par {ax ay bx b_y cx cy dx dy : Int} (h : den4 ax ay bx b_y cx cy dx dy = 0) {l : List (Int × Int)} (e : shr ax ay bx b_y cx cy dx dy = l) : mn 2 (l.length : Int) = meetN ax ay bx b_y cx cy dx dy := by
  rw [← rsh_eq]; unfold rsh; rw [if_neg (by simpa using h), e]
theorem prp_swap (ax ay bx b_y cx cy dx dy : Int) : prp cx cy dx dy ax ay bx b_y = prp ax ay bx b_y cx cy dx dy := by
  rw [Bool.eq_iff_iff, prp_iff, prp_iff]; constructor <;> rintro ⟨h1, h2⟩ <;> exact ⟨h2, h1⟩
theorem prp_flip (ax ay bx b_y cx cy dx dy : Int) : prp bx b_y ax ay cx cy dx dy = prp ax ay bx b_y cx cy dx dy := by
  rw [Bool.eq_iff_iff, prp_iff, prp_iff, crs_anti bx b_y ax ay cx cy, crs_anti bx b_y ax ay dx dy, Int.zero_sub, Int.zero_sub, Int.neg_mul_neg, Int.mul_comm (crs cx cy dx dy bx b_y)]
theorem shr_swap (ax ay bx b_y cx cy dx dy : Int) (z : Int × Int) : z ∈ shr cx cy dx dy ax ay bx b_y ↔ z ∈ shr ax ay bx b_y cx cy dx dy := by
  rw [mem_shr, mem_shr]; constructor <;> (rintro (h | h | h | h) <;> simp [h])
theorem shr_flip (ax ay bx b_y cx cy dx dy : Int) (z : Int × Int) : z ∈ shr bx b_y ax ay cx cy dx dy ↔ z ∈ shr ax ay bx b_y cx cy dx dy := by
  rw [mem_shr, mem_shr, onb_comm bx b_y ax ay cx cy, onb_comm bx b_y ax ay dx dy]; constructor <;> (rintro (h | h | h | h) <;> simp [h])
theorem len_same {l m : List (Int × Int)} (h1 : l.Nodup) (h2 : m.Nodup) (h : ∀ z, z ∈ l ↔ z ∈ m) : l.length = m.length :=
  ((List.perm_ext_iff_of_nodup h1 h2).2 h).length_eq
theorem meetN_swap (ax ay bx b_y cx cy dx dy : Int) : meetN cx cy dx dy ax ay bx b_y = meetN ax ay bx b_y cx cy dx dy := by
  unfold meetN; rw [prp_swap, len_same (nodup_shr ..) (nodup_shr ..) (shr_swap ax ay bx b_y cx cy dx dy)]
theorem meetN_flip (ax ay bx b_y cx cy dx dy : Int) : meetN bx b_y ax ay cx cy dx dy = meetN ax ay bx b_y cx cy dx dy := by
  unfold meetN; rw [prp_flip, len_same (nodup_shr ..) (nodup_shr ..) (shr_flip ax ay bx b_y cx cy dx dy)]
theorem sgn_bd (a : Int) : -1 ≤ sgn a ∧ sgn a ≤ 1 := by unfold sgn; (repeat' split) <;> omega
end Go.Proofs.YtngmegnaohmapaaDoor.Am.Sp

