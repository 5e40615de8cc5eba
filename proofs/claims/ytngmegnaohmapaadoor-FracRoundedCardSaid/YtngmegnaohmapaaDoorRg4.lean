import Derived.Test.YtngmegnaohmapaaDoorSp6
set_option linter.unusedVariables false
set_option linter.unusedSimpArgs false
namespace Go.Proofs.YtngmegnaohmapaaDoor.Am.Sp
/-! Rings: the parity of crossings does not depend on the direction of the ray. Seen from the point: an edge from (x, y) to (u, v) -/
/-- the edge crosses the ray to the right -/
def crR (x y u v : Int) : Bool := if y > v then decide (v < 0) && (decide (0 ≤ y) && decide (u * y - v * x > 0)) else decide (y < 0) && (decide (0 ≤ v) && decide (x * v - y * u > 0))
/-- the corner is in the quarter between the ray to the right and the ray down -/
def qd4 (x y : Int) : Bool := decide (0 ≤ x) && decide (y < 0)
theorem sgnp {a b P : Int} (h : a * b = P) : ((0 < a → 0 < b → 0 < P) ∧ (a < 0 → b < 0 → 0 < P) ∧ (0 < a → b < 0 → P < 0) ∧ (a < 0 → 0 < b → P < 0)) ∧ ((a = 0 → P = 0) ∧ (b = 0 → P = 0)) := by
  subst h
  exact ⟨⟨Int.mul_pos, Int.mul_pos_of_neg_of_neg, fun h k => Int.mul_neg_of_pos_of_neg h k, fun h k => Int.mul_neg_of_neg_of_pos h k⟩, fun h => by rw [h, Int.zero_mul], fun h => by rw [h, Int.mul_zero]⟩
theorem crR_iff (x y u v : Int) : crR x y u v = true ↔ (v < y ∧ (v < 0 ∧ 0 ≤ y) ∧ y * u - x * v > 0) ∨ (y ≤ v ∧ (y < 0 ∧ 0 ≤ v) ∧ x * v - y * u > 0) := by
  have e1 : u * y - v * x = y * u - x * v := by grind
  unfold crR
  rw [e1]
  split <;> simp only [Bool.and_eq_true, decide_eq_true_eq] <;> omega
theorem qd4_iff (x y : Int) : qd4 x y = true ↔ 0 ≤ x ∧ y < 0 := by unfold qd4; simp
theorem ray_iff {a b c d : Bool} (h1 : a = true ∧ b = true → (c = true ↔ d = true)) (h2 : ¬ a = true ∧ ¬ b = true → (c = true ↔ d = true)) (h3 : a = true ∧ ¬ b = true → ¬ (c = true ↔ d = true)) (h4 : ¬ a = true ∧ b = true → ¬ (c = true ↔ d = true)) : ((a != b) = (c != d)) := by
  cases a <;> cases b <;> cases c <;> cases d <;> simp_all
theorem ray_prop {x y u v P R S T : Int} (h : ¬ (P - R = 0 ∧ S + T ≤ 0)) (p1 : x * v = P) (p2 : y * u = R) (p3 : x * u = S) (p4 : y * v = T) :
    let A := (v < y ∧ (v < 0 ∧ 0 ≤ y) ∧ R - P > 0) ∨ (y ≤ v ∧ (y < 0 ∧ 0 ≤ v) ∧ P - R > 0)
    let B := (u < x ∧ (u < 0 ∧ 0 ≤ x) ∧ R - P > 0) ∨ (x ≤ u ∧ (x < 0 ∧ 0 ≤ u) ∧ P - R > 0)
    (((A ∧ B) ∨ (¬ A ∧ ¬ B)) ↔ ((0 ≤ x ∧ y < 0) ↔ (0 ≤ u ∧ v < 0))) := by
  replace p1 := sgnp p1
  replace p2 := sgnp p2
  replace p3 := sgnp p3
  replace p4 := sgnp p4
  intro A B
  rcases Int.lt_trichotomy x 0 with a | a | a <;> rcases Int.lt_trichotomy y 0 with b | b | b <;> rcases Int.lt_trichotomy u 0 with c | c | c <;> rcases Int.lt_trichotomy v 0 with d | d | d <;>
    (first | have q1 := p1.1.1 (by assumption) (by assumption) | have q1 := p1.1.2.1 (by assumption) (by assumption) | have q1 := p1.1.2.2.1 (by assumption) (by assumption) | have q1 := p1.1.2.2.2 (by assumption) (by assumption) | have q1 := p1.2.1 (by assumption) | have q1 := p1.2.2 (by assumption)) <;> clear p1 <;>
    (first | have q2 := p2.1.1 (by assumption) (by assumption) | have q2 := p2.1.2.1 (by assumption) (by assumption) | have q2 := p2.1.2.2.1 (by assumption) (by assumption) | have q2 := p2.1.2.2.2 (by assumption) (by assumption) | have q2 := p2.2.1 (by assumption) | have q2 := p2.2.2 (by assumption)) <;> clear p2 <;>
    (first | have q3 := p3.1.1 (by assumption) (by assumption) | have q3 := p3.1.2.1 (by assumption) (by assumption) | have q3 := p3.1.2.2.1 (by assumption) (by assumption) | have q3 := p3.1.2.2.2 (by assumption) (by assumption) | have q3 := p3.2.1 (by assumption) | have q3 := p3.2.2 (by assumption)) <;> clear p3 <;>
    (first | have q4 := p4.1.1 (by assumption) (by assumption) | have q4 := p4.1.2.1 (by assumption) (by assumption) | have q4 := p4.1.2.2.1 (by assumption) (by assumption) | have q4 := p4.1.2.2.2 (by assumption) (by assumption) | have q4 := p4.2.1 (by assumption) | have q4 := p4.2.2 (by assumption)) <;> clear p4 <;> (show (_ ↔ _)) <;> omega
theorem ray_bool {a b c d : Bool} {A B C D : Prop} (h1 : a = true ↔ A) (h2 : b = true ↔ B) (h3 : c = true ↔ C) (h4 : d = true ↔ D) (q : ((A ∧ B) ∨ (¬ A ∧ ¬ B)) ↔ (C ↔ D)) : ((a != b) = (c != d)) := by
  rw [← h1, ← h2, ← h3, ← h4] at q
  cases a <;> cases b <;> cases c <;> cases d <;> simp at q ⊢
/-- an edge that the point is not on: the two rays are crossed alike, exactly if both ends are in the quarter between them, or none -/
theorem ray_edge {x y u v : Int} (h : ¬ (x * v - y * u = 0 ∧ x * u + y * v ≤ 0)) : ((crR x y u v != crR (-y) x (-v) u) = (qd4 x y != qd4 u v)) := by
  have r2 := crR_iff (-y) x (-v) u
  rw [show x * -v - -y * u = y * u - x * v by grind, show -y * u - x * -v = x * v - y * u by grind] at r2
  exact ray_bool (crR_iff ..) r2 (qd4_iff ..) (qd4_iff ..) (ray_prop h rfl rfl rfl rfl)
end Go.Proofs.YtngmegnaohmapaaDoor.Am.Sp

set_option linter.unusedVariables false
set_option linter.unusedSimpArgs false
namespace Go.Proofs.YtngmegnaohmapaaDoor.Am.Sp
/-! Along a line: the parity of what happens at its edges -/
def xorp (f : Int × Int → Int × Int → Bool) : Int × Int → List (Int × Int) → Bool
  | _, [] => false
  | a, b :: r => f a b != xorp f b r
def lastp : Int × Int → List (Int × Int) → Int × Int
  | a, [] => a
  | _, b :: r => lastp b r
/-- the edges of a line, seen from the point p -/
def cR (p a b : Int × Int) : Bool := crR (a.1 - p.1) (a.2 - p.2) (b.1 - p.1) (b.2 - p.2)
def cD (p a b : Int × Int) : Bool := crR (-(a.2 - p.2)) (a.1 - p.1) (-(b.2 - p.2)) (b.1 - p.1)
def q4 (p a : Int × Int) : Bool := qd4 (a.1 - p.1) (a.2 - p.2)
/-- no edge of the line has the point -/
def offp (p : Int × Int) : Int × Int → List (Int × Int) → Prop
  | _, [] => True
  | a, b :: r => onb a.1 a.2 b.1 b.2 p.1 p.2 = false ∧ offp p b r
theorem off_ray {p a b : Int × Int} (h : onb a.1 a.2 b.1 b.2 p.1 p.2 = false) : (cR p a b != cD p a b) = (q4 p a != q4 p b) := by
  refine ray_edge fun k => ?_
  have : onb a.1 a.2 b.1 b.2 p.1 p.2 = true := by
    rw [onb_iff]
    constructor
    · have := k.1; unfold crs; grind
    · have := k.2; unfold dot; grind
  rw [h] at this; cases this
theorem par_line (p : Int × Int) : ∀ (l : List (Int × Int)) (a : Int × Int), offp p a l → (xorp (cR p) a l != xorp (cD p) a l) = (q4 p a != q4 p (lastp a l))
  | [], a, _ => by simp [xorp, lastp]
  | b :: r, a, h => by
    have e := off_ray h.1
    have ih := par_line p r b h.2
    simp only [xorp, lastp]
    revert e ih
    cases cR p a b <;> cases cD p a b <;> cases xorp (cR p) b r <;> cases xorp (cD p) b r <;> cases q4 p a <;> cases q4 p b <;> cases q4 p (lastp b r) <;> simp
/-- a closed line: the parity of the crossings is the same for both rays -/
theorem par_ring {p a : Int × Int} {l : List (Int × Int)} (h : offp p a l) (hc : lastp a l = a) : xorp (cR p) a l = xorp (cD p) a l := by
  have e := par_line p l a h
  rw [hc] at e
  revert e
  cases xorp (cR p) a l <;> cases xorp (cD p) a l <;> simp
end Go.Proofs.YtngmegnaohmapaaDoor.Am.Sp

set_option linter.unusedVariables false
set_option linter.unusedSimpArgs false
namespace Go.Proofs.YtngmegnaohmapaaDoor.Am.Sp
/-! Whether a closed line has a point: moved, turned -/
def onany (p : Int × Int) : Int × Int → List (Int × Int) → Bool
  | _, [] => false
  | a, b :: r => onb a.1 a.2 b.1 b.2 p.1 p.2 || onany p b r
def hasv (p a : Int × Int) (l : List (Int × Int)) : Int := if onany p a l = true then 0 else if xorp (cR p) a l = true then 1 else -1
theorem off_iff (p : Int × Int) : ∀ (l : List (Int × Int)) (a : Int × Int), offp p a l ↔ onany p a l = false
  | [], a => by simp [offp, onany]
  | b :: r, a => by simp only [offp, onany, off_iff p r b, Bool.or_eq_false_iff]
def turn4 (a : Int × Int) : Int × Int := (-a.2, a.1)
def move2 (d a : Int × Int) : Int × Int := (a.1 + d.1, a.2 + d.2)
theorem onb_turn4 (a b p : Int × Int) : onb (turn4 a).1 (turn4 a).2 (turn4 b).1 (turn4 b).2 (turn4 p).1 (turn4 p).2 = onb a.1 a.2 b.1 b.2 p.1 p.2 := by
  rw [Bool.eq_iff_iff, onb_iff, onb_iff]
  have e1 : crs (turn4 a).1 (turn4 a).2 (turn4 b).1 (turn4 b).2 (turn4 p).1 (turn4 p).2 = crs a.1 a.2 b.1 b.2 p.1 p.2 := by unfold turn4 crs; grind
  have e2 : dot (turn4 p).1 (turn4 p).2 (turn4 a).1 (turn4 a).2 (turn4 b).1 (turn4 b).2 = dot p.1 p.2 a.1 a.2 b.1 b.2 := by unfold turn4 dot; grind
  rw [e1, e2]
theorem onb_move2 (d a b p : Int × Int) : onb (move2 d a).1 (move2 d a).2 (move2 d b).1 (move2 d b).2 (move2 d p).1 (move2 d p).2 = onb a.1 a.2 b.1 b.2 p.1 p.2 := by
  rw [Bool.eq_iff_iff, onb_iff, onb_iff]
  have e1 : crs (move2 d a).1 (move2 d a).2 (move2 d b).1 (move2 d b).2 (move2 d p).1 (move2 d p).2 = crs a.1 a.2 b.1 b.2 p.1 p.2 := by unfold move2 crs; grind
  have e2 : dot (move2 d p).1 (move2 d p).2 (move2 d a).1 (move2 d a).2 (move2 d b).1 (move2 d b).2 = dot p.1 p.2 a.1 a.2 b.1 b.2 := by unfold move2 dot; grind
  rw [e1, e2]
theorem cR_turn4 (p a b : Int × Int) : cR (turn4 p) (turn4 a) (turn4 b) = cD p a b := by
  unfold cR cD turn4
  rw [show -a.2 - -p.2 = -(a.2 - p.2) by omega, show -b.2 - -p.2 = -(b.2 - p.2) by omega]
theorem cR_move2 (d p a b : Int × Int) : cR (move2 d p) (move2 d a) (move2 d b) = cR p a b := by
  unfold cR move2
  rw [show a.1 + d.1 - (p.1 + d.1) = a.1 - p.1 by omega, show a.2 + d.2 - (p.2 + d.2) = a.2 - p.2 by omega, show b.1 + d.1 - (p.1 + d.1) = b.1 - p.1 by omega, show b.2 + d.2 - (p.2 + d.2) = b.2 - p.2 by omega]
theorem on_turn4 (p : Int × Int) : ∀ (l : List (Int × Int)) (a : Int × Int), onany (turn4 p) (turn4 a) (l.map turn4) = onany p a l
  | [], a => rfl
  | b :: r, a => by simp only [List.map_cons, onany, onb_turn4, on_turn4 p r b]
theorem on_move2 (d p : Int × Int) : ∀ (l : List (Int × Int)) (a : Int × Int), onany (move2 d p) (move2 d a) (l.map (move2 d)) = onany p a l
  | [], a => rfl
  | b :: r, a => by simp only [List.map_cons, onany, onb_move2, on_move2 d p r b]
theorem xor_turn4 (p : Int × Int) : ∀ (l : List (Int × Int)) (a : Int × Int), xorp (cR (turn4 p)) (turn4 a) (l.map turn4) = xorp (cD p) a l
  | [], a => rfl
  | b :: r, a => by simp only [List.map_cons, xorp, cR_turn4, xor_turn4 p r b]
theorem xor_move2 (d p : Int × Int) : ∀ (l : List (Int × Int)) (a : Int × Int), xorp (cR (move2 d p)) (move2 d a) (l.map (move2 d)) = xorp (cR p) a l
  | [], a => rfl
  | b :: r, a => by simp only [List.map_cons, xorp, cR_move2, xor_move2 d p r b]
theorem has_move2 (d p a : Int × Int) (l : List (Int × Int)) : hasv (move2 d p) (move2 d a) (l.map (move2 d)) = hasv p a l := by
  unfold hasv; rw [on_move2, xor_move2]
theorem has_turn4 {p a : Int × Int} {l : List (Int × Int)} (hc : lastp a l = a) : hasv (turn4 p) (turn4 a) (l.map turn4) = hasv p a l := by
  unfold hasv
  rw [on_turn4, xor_turn4]
  by_cases h : onany p a l = true
  · rw [if_pos h, if_pos h]
  · rw [if_neg h, if_neg h, par_ring ((off_iff p l a).2 (by simpa using h)) hc]
end Go.Proofs.YtngmegnaohmapaaDoor.Am.Sp

set_option linter.unusedVariables false
set_option linter.unusedSimpArgs false
namespace Go.Proofs.YtngmegnaohmapaaDoor.Am.Sp
/-! What ring.Has computes, round by round -/
def limp (q : Int × Int) : Int × Int := (lim 1048576 q.1, lim 1048576 q.2)
/-- the test of an edge, as the code makes it -/
def crX (ax ay bx by_ x y : Int) : Bool := if ay > by_ then decide (by_ < y) && (decide (y ≤ ay) && decide (cmp (crs bx by_ ax ay x y) 0 > 0)) else decide (ay < y) && (decide (y ≤ by_) && decide (cmp (crs ax ay bx by_ x y) 0 > 0))
def cA (ps : List (Int × Int)) (i : Nat) : Int := lim 1048576 (ps.getD i (0, 0)).1
def cB (ps : List (Int × Int)) (i : Nat) : Int := lim 1048576 (ps.getD i (0, 0)).2
def hasF (ps : List (Int × Int)) (x y : Int) (i : Nat) (out : Int) : Int :=
  if i < ps.length then
    if onb (cA ps i) (cB ps i) (cA ps ((i + 1) % ps.length)) (cB ps ((i + 1) % ps.length)) x y = true then 0
    else hasF ps x y (i + 1) (if crX (cA ps i) (cB ps i) (cA ps ((i + 1) % ps.length)) (cB ps ((i + 1) % ps.length)) x y = true then 0 - out else out)
  else out
termination_by ps.length - i
theorem hasF_end {ps : List (Int × Int)} {x y : Int} {i : Nat} {out : Int} (h : ¬ i < ps.length) : hasF ps x y i out = out := by rw [hasF, if_neg h]
theorem hasF_on {ps : List (Int × Int)} {x y : Int} {i j : Nat} {out : Int} (h : i < ps.length) (hj : (i + 1) % ps.length = j) (o : onb (cA ps i) (cB ps i) (cA ps j) (cB ps j) x y = true) : hasF ps x y i out = 0 := by
  rw [hasF, if_pos h, hj, if_pos o]
theorem hasF_cr {ps : List (Int × Int)} {x y : Int} {i j : Nat} {out : Int} (h : i < ps.length) (hj : (i + 1) % ps.length = j) (o : onb (cA ps i) (cB ps i) (cA ps j) (cB ps j) x y = false) (c : crX (cA ps i) (cB ps i) (cA ps j) (cB ps j) x y = true) : hasF ps x y (i + 1) (0 - out) = hasF ps x y i out := by
  conv => rhs; rw [hasF, if_pos h, hj, if_neg (by rw [o]; decide), if_pos c]
theorem hasF_no {ps : List (Int × Int)} {x y : Int} {i j : Nat} {out : Int} (h : i < ps.length) (hj : (i + 1) % ps.length = j) (o : onb (cA ps i) (cB ps i) (cA ps j) (cB ps j) x y = false) (c : crX (cA ps i) (cB ps i) (cA ps j) (cB ps j) x y = false) : hasF ps x y (i + 1) out = hasF ps x y i out := by
  conv => rhs; rw [hasF, if_pos h, hj, if_neg (by rw [o]; decide), if_neg (by rw [c]; decide)]
variable {ax ay bx b_y x y : Int}
theorem crX_d1 (h : decide (ay > b_y) = true) (h1 : decide (b_y < y) = false) : crX ax ay bx b_y x y = false := by unfold crX; rw [if_pos (of_decide_eq_true h), h1]; rfl
theorem crX_d2 (h : decide (ay > b_y) = true) (h1 : decide (b_y < y) = true) (h2 : decide (y ≤ ay) = false) : crX ax ay bx b_y x y = false := by unfold crX; rw [if_pos (of_decide_eq_true h), h1, h2]; rfl
theorem crX_d3 (h : decide (ay > b_y) = true) (h1 : decide (b_y < y) = true) (h2 : decide (y ≤ ay) = true) (h3 : decide (cmp (crs bx b_y ax ay x y) 0 > 0) = false) : crX ax ay bx b_y x y = false := by unfold crX; rw [if_pos (of_decide_eq_true h), h1, h2, h3]; rfl
theorem crX_d4 (h : decide (ay > b_y) = true) (h1 : decide (b_y < y) = true) (h2 : decide (y ≤ ay) = true) (h3 : decide (cmp (crs bx b_y ax ay x y) 0 > 0) = true) : crX ax ay bx b_y x y = true := by unfold crX; rw [if_pos (of_decide_eq_true h), h1, h2, h3]; rfl
theorem crX_u1 (h : decide (ay > b_y) = false) (h1 : decide (ay < y) = false) : crX ax ay bx b_y x y = false := by unfold crX; rw [if_neg (of_decide_eq_false h), h1]; rfl
theorem crX_u2 (h : decide (ay > b_y) = false) (h1 : decide (ay < y) = true) (h2 : decide (y ≤ b_y) = false) : crX ax ay bx b_y x y = false := by unfold crX; rw [if_neg (of_decide_eq_false h), h1, h2]; rfl
theorem crX_u3 (h : decide (ay > b_y) = false) (h1 : decide (ay < y) = true) (h2 : decide (y ≤ b_y) = true) (h3 : decide (cmp (crs ax ay bx b_y x y) 0 > 0) = false) : crX ax ay bx b_y x y = false := by unfold crX; rw [if_neg (of_decide_eq_false h), h1, h2, h3]; rfl
theorem crX_u4 (h : decide (ay > b_y) = false) (h1 : decide (ay < y) = true) (h2 : decide (y ≤ b_y) = true) (h3 : decide (cmp (crs ax ay bx b_y x y) 0 > 0) = true) : crX ax ay bx b_y x y = true := by unfold crX; rw [if_neg (of_decide_eq_false h), h1, h2, h3]; rfl
theorem cmpd_pos (n : Int) : decide (cmp n 0 > 0) = decide (0 < n) := by unfold cmp; split <;> (try split) <;> simp <;> omega
/-- the test is the crossing of the ray to the right, seen from the point -/
theorem crX_cR (ax ay bx b_y x y : Int) : crX ax ay bx b_y x y = cR (x, y) (ax, ay) (bx, b_y) := by
  rw [Bool.eq_iff_iff]; unfold cR; rw [crR_iff]; unfold crX
  rw [cmpd_pos, cmpd_pos]
  have e1 : crs bx b_y ax ay x y = (ay - y) * (bx - x) - (ax - x) * (b_y - y) := by unfold crs; grind
  have e2 : crs ax ay bx b_y x y = (ax - x) * (b_y - y) - (ay - y) * (bx - x) := by unfold crs; grind
  rw [e1, e2]
  generalize (ay - y) * (bx - x) = P
  generalize (ax - x) * (b_y - y) = Q
  split <;> simp only [Bool.and_eq_true, decide_eq_true_eq] <;> omega
theorem getD_lt {l : List (Int × Int)} {i : Nat} {d : Int × Int} (h : i < l.length) : l.getD i d = l[i] := by simp [List.getD, h]
theorem hasF_line (ps : List (Int × Int)) (x y : Int) (b0 : Int × Int) (rest : List (Int × Int)) (hp : ps = b0 :: rest) : ∀ (k i : Nat) (out : Int), i + k = ps.length →
    hasF ps x y i out = if onany (x, y) ((ps.map limp ++ [limp b0]).getD i (0, 0)) ((ps.map limp ++ [limp b0]).drop (i + 1)) = true then 0 else if xorp (cR (x, y)) ((ps.map limp ++ [limp b0]).getD i (0, 0)) ((ps.map limp ++ [limp b0]).drop (i + 1)) = true then 0 - out else out
  | 0, i, out, h => by
    rw [hasF_end (by omega), List.drop_of_length_le (by simp; omega)]
    simp [onany, xorp]
  | k + 1, i, out, h => by
    have hlt : i < ps.length := by omega
    have hM : (ps.map limp ++ [limp b0]).length = ps.length + 1 := by simp
    have hd : (ps.map limp ++ [limp b0]).drop (i + 1) = (ps.map limp ++ [limp b0]).getD (i + 1) (0, 0) :: (ps.map limp ++ [limp b0]).drop (i + 2) := by
      rw [List.drop_eq_getElem_cons (by omega), getD_lt (by omega)]
    have ha : (ps.map limp ++ [limp b0]).getD i (0, 0) = (cA ps i, cB ps i) := by
      rw [getD_lt (by omega), List.getElem_append_left (by simpa using hlt), List.getElem_map]
      unfold cA cB limp; rw [getD_lt hlt]
    have hb : (ps.map limp ++ [limp b0]).getD (i + 1) (0, 0) = (cA ps ((i + 1) % ps.length), cB ps ((i + 1) % ps.length)) := by
      by_cases e : i + 1 = ps.length
      · rw [e, Nat.mod_self, getD_lt (by omega), List.getElem_append_right (by simp)]
        unfold cA cB; subst hp; simp [limp]
      · have hl : i + 1 < ps.length := by omega
        rw [Nat.mod_eq_of_lt hl, getD_lt (by omega), List.getElem_append_left (by simpa using hl), List.getElem_map]
        unfold cA cB limp; rw [getD_lt hl]
    have ih := hasF_line ps x y b0 rest hp k (i + 1)
    rw [hasF, if_pos hlt, ih _ (by omega), hd, onany, xorp, hb, ha, crX_cR]
    generalize onany (x, y) _ _ = O
    generalize xorp _ _ _ = X
    generalize onb _ _ _ _ _ _ = o
    generalize cR _ _ _ = c
    cases O <;> cases X <;> cases o <;> cases c <;> simp <;> omega
/-- what ring.Has answers of a ring that is not empty -/
theorem hasF_eq (a : Int × Int) (t : List (Int × Int)) (x y : Int) : hasF (a :: t) x y 0 (-1) = hasv (x, y) (limp a) (t.map limp ++ [limp a]) := by
  rw [hasF_line (a :: t) x y a t rfl (a :: t).length 0 (-1) (by omega)]
  rfl
end Go.Proofs.YtngmegnaohmapaaDoor.Am.Sp

