import Derived.Test.YtomnkdlfmjdckaaM2
import Derived.SizedLaws
import Derived.Laws.MakeOwn
import Derived.Lib.AppendZeros
import Derived.Test.YtomnkdlfmjdckaaProg
namespace Go.Proofs.Ytomnkdlfmjdckaa.Am.Sp
def lim (m n : Int) : Int := max (-m) (min n m)
def cmp (a b : Int) : Int := if a < b then -1 else if b < a then 1 else 0
def sgn (a : Int) : Int := if a < 0 then -1 else if 0 < a then 1 else 0
theorem lim_bd {m : Int} (hm : 0 ≤ m) (n : Int) : -m ≤ lim m n ∧ lim m n ≤ m := by unfold lim; omega
theorem emod_bd (x : Int) {n : Int} (h : 0 < n) : 0 ≤ x % n ∧ x % n < n := ⟨Int.emod_nonneg x (by omega), Int.emod_lt_of_pos x h⟩
theorem tmod_lo {x n : Int} (hn : 0 < n) : -n < Int.tmod x n := by
  have h1 := Int.tmod_eq_emod (a := x) (b := n)
  have := emod_bd x hn
  split at h1 <;> omega
theorem below_neg {x n : Int} (hn : 0 < n) (h : Int.tmod x n < 0) : Int.tmod x n + n = x % n := by
  have h1 := Int.tmod_eq_emod (a := x) (b := n)
  have := emod_bd x hn
  split at h1 <;> omega
theorem below_pos {x n : Int} (hn : 0 < n) (h : ¬ Int.tmod x n < 0) : Int.tmod x n = x % n := by
  have h1 := Int.tmod_eq_emod (a := x) (b := n)
  have := emod_bd x hn
  split at h1 <;> omega
theorem mul_bd {a b A B : Int} (h1 : -A ≤ a) (h2 : a ≤ A) (h3 : -B ≤ b) (h4 : b ≤ B) : -(A * B) ≤ a * b ∧ a * b ≤ A * B := by
  have hA : 0 ≤ A := by omega
  have hB : 0 ≤ B := by omega
  have e1 : 0 ≤ (A - a) * (B - b) := Int.mul_nonneg (by omega) (by omega)
  have e2 : 0 ≤ (A + a) * (B + b) := Int.mul_nonneg (by omega) (by omega)
  have e3 : 0 ≤ (A - a) * (B + b) := Int.mul_nonneg (by omega) (by omega)
  have e4 : 0 ≤ (A + a) * (B - b) := Int.mul_nonneg (by omega) (by omega)
  constructor <;> grind
def crs (ax ay bx b_y cx cy : Int) : Int := (bx - ax) * (cy - ay) - (b_y - ay) * (cx - ax)
def dot (ax ay bx b_y cx cy : Int) : Int := (bx - ax) * (cx - ax) + (b_y - ay) * (cy - ay)
def pcmp (ax ay bx b_y : Int) : Int := if (cmp ax bx != 0) = true then cmp ax bx else cmp ay b_y
def In64 (x : Int) : Prop := -9223372036854775808 ≤ x ∧ x ≤ 9223372036854775807
theorem tdiv_in {x n : Int} (h : In64 x) (hn : 1 < n) : -9223372036854775808 ≤ Int.tdiv x n ∧ Int.tdiv x n ≤ 9223372036854775807 := by
  obtain ⟨h1, h2⟩ := h
  have e := Int.mul_tdiv_add_tmod x n
  have l := tmod_lo (x := x) (n := n) (by omega)
  have u : Int.tmod x n < n := Int.tmod_lt_of_pos x (by omega)
  constructor
  · rcases Int.lt_or_le (Int.tdiv x n) (-9223372036854775808) with h | h
    · exfalso
      have : n * Int.tdiv x n ≤ n * (-9223372036854775809) := Int.mul_le_mul_of_nonneg_left (by omega) (by omega)
      omega
    · exact h
  · rcases Int.lt_or_le 9223372036854775807 (Int.tdiv x n) with h | h
    · exfalso
      have : n * 9223372036854775808 ≤ n * Int.tdiv x n := Int.mul_le_mul_of_nonneg_left (by omega) (by omega)
      omega
    · exact h
theorem lim_id {m n : Int} (h1 : -m ≤ n) (h2 : n ≤ m) : lim m n = n := by unfold lim; omega
theorem cmp_zero (a b : Int) : cmp a b = 0 ↔ a = b := by unfold cmp; (repeat' split) <;> omega
theorem cmp_bd (a b : Int) : -1 ≤ cmp a b ∧ cmp a b ≤ 1 := by unfold cmp; (repeat' split) <;> omega
end Go.Proofs.Ytomnkdlfmjdckaa.Am.Sp
namespace Go.Proofs.Ytomnkdlfmjdckaa.Am.Sp
end Go.Proofs.Ytomnkdlfmjdckaa.Am.Sp
namespace Go.Proofs.Ytomnkdlfmjdckaa.Am.Sp
def onb (ax ay bx b_y px py : Int) : Bool := cmp (crs ax ay bx b_y px py) 0 == 0 && decide (dot px py ax ay bx b_y ≤ 0)
theorem crs_anti (ax ay bx b_y cx cy : Int) : crs ax ay bx b_y cx cy = 0 - crs bx b_y ax ay cx cy := by unfold crs; grind
theorem crs_move (ax ay bx b_y cx cy gx gy : Int) : crs ax ay bx b_y cx cy = crs (ax + gx) (ay + gy) (bx + gx) (b_y + gy) (cx + gx) (cy + gy) := by
  unfold crs
  rw [show bx + gx - (ax + gx) = bx - ax by omega, show cy + gy - (ay + gy) = cy - ay by omega, show b_y + gy - (ay + gy) = b_y - ay by omega, show cx + gx - (ax + gx) = cx - ax by omega]
theorem dot_comm (ax ay bx b_y cx cy : Int) : dot ax ay bx b_y cx cy = dot ax ay cx cy bx b_y := by unfold dot; grind
theorem sqr_nonneg (a : Int) : 0 ≤ a * a := by
  rcases Int.le_total 0 a with q | q
  · exact Int.mul_nonneg q q
  · exact Int.mul_nonneg_of_nonpos_of_nonpos q q
theorem onb_iff (ax ay bx b_y px py : Int) : onb ax ay bx b_y px py = true ↔ crs ax ay bx b_y px py = 0 ∧ dot px py ax ay bx b_y ≤ 0 := by
  unfold onb
  rw [Bool.and_eq_true, beq_iff_eq, cmp_zero, decide_eq_true_iff]
theorem onb_comm (ax ay bx b_y px py : Int) : onb ax ay bx b_y px py = onb bx b_y ax ay px py := by
  rw [Bool.eq_iff_iff, onb_iff, onb_iff, crs_anti ax, dot_comm px]
  omega
def quarter (x y : Int) : Int := if x = 0 ∧ y = 0 then 0 else if 0 < x ∧ 0 ≤ y then 1 else if x ≤ 0 ∧ 0 < y then 2 else if x < 0 then 3 else 4
theorem pcmp_form (ax ay bx b_y : Int) : pcmp ax ay bx b_y = if ax < bx then -1 else if bx < ax then 1 else if ay < b_y then -1 else if b_y < ay then 1 else 0 := by
  unfold pcmp
  by_cases h : ax < bx
  · simp [cmp, h]
  · by_cases g : bx < ax
    · simp [cmp, h, g]
    · have : ax = bx := by omega
      subst this
      simp [cmp]
end Go.Proofs.Ytomnkdlfmjdckaa.Am.Sp
namespace Go.Proofs.Ytomnkdlfmjdckaa.Am.Sp
def pw (j : Nat) : Int := 2 ^ j
def p4 (j : Nat) : Int := 4 ^ j
def tx (x y s r u : Int) : Int := if u = 1 then x else if r = 1 then s - 1 - y else y
def ty (x y s r u : Int) : Int := if u = 1 then y else if r = 1 then s - 1 - x else x
def dg (r u : Int) : Int := if r = 0 then (if u = 0 then 0 else 1) else if u = 0 then 3 else 2
def idx : Nat → Int → Int → Int
  | 0, _, _ => 0
  | j + 1, x, y => pw j * pw j * dg (x / pw j) (y / pw j) + idx j (tx (x % pw j) (y % pw j) (pw j) (x / pw j) (y / pw j)) (ty (x % pw j) (y % pw j) (pw j) (x / pw j) (y / pw j))
def nb (a b c d : Int) : Prop := (a = c ∧ (b = d + 1 ∨ d = b + 1)) ∨ (b = d ∧ (a = c + 1 ∨ c = a + 1))
end Go.Proofs.Ytomnkdlfmjdckaa.Am.Sp
namespace Go.Proofs.Ytomnkdlfmjdckaa.Am.Sp
def sd : Nat → Int
  | 0 => 0
  | j + 1 => pw j
def index (x y : Int) : Int := idx 22 (lim 1048576 x + 1048576) (lim 1048576 y + 1048576)
def okb (x y : Int) : Bool := (x == lim 1048576 x) && ((y == lim 1048576 y) && true)
theorem okb_iff (x y : Int) : okb x y = true ↔ (-1048576 ≤ x ∧ x ≤ 1048576) ∧ (-1048576 ≤ y ∧ y ≤ 1048576) := by
  unfold okb lim
  rw [Bool.and_eq_true, Bool.and_eq_true, beq_iff_eq, beq_iff_eq]
  simp only [and_true]
  omega
end Go.Proofs.Ytomnkdlfmjdckaa.Am.Sp
namespace Go.Proofs.Ytomnkdlfmjdckaa.Am.Sp
end Go.Proofs.Ytomnkdlfmjdckaa.Am.Sp
namespace Go.Proofs.Ytomnkdlfmjdckaa.Am.Sp
def mn (a b : Int) : Int := if b < a then b else a
def mx (a b : Int) : Int := if b > a then b else a
def inbox (lx ly hx hy px py : Int) : Bool := decide (lx ≤ px) && (decide (px ≤ hx) && (decide (ly ≤ py) && decide (py ≤ hy)))
def bok (lx ly hx hy : Int) : Bool := okb lx ly && (okb hx hy && (decide (lx ≤ hx) && decide (ly ≤ hy)))
def meet (a b c d e f g h : Int) : Bool := inbox a b c d (mx a e) (mx b f) && inbox e f g h (mx a e) (mx b f)
/-- the box of the first points of a list -/
def bxo (ps : List (Int × Int)) : Nat → Int × Int × Int × Int
  | 0 => (0, 0, 0, 0)
  | i + 1 =>
    let x := lim 1048576 (ps.getD i (0, 0)).1
    let y := lim 1048576 (ps.getD i (0, 0)).2
    let b := if i = 0 then (x, y, x, y) else bxo ps i
    (mn b.1 x, mn b.2.1 y, mx b.2.2.1 x, mx b.2.2.2 y)
theorem bxo_first {ps : List (Int × Int)} {i : Nat} (h : i = 0) : bxo ps (i + 1) = (mn (lim 1048576 (ps.getD i (0, 0)).1) (lim 1048576 (ps.getD i (0, 0)).1), mn (lim 1048576 (ps.getD i (0, 0)).2) (lim 1048576 (ps.getD i (0, 0)).2), mx (lim 1048576 (ps.getD i (0, 0)).1) (lim 1048576 (ps.getD i (0, 0)).1), mx (lim 1048576 (ps.getD i (0, 0)).2) (lim 1048576 (ps.getD i (0, 0)).2)) := by
  subst h; rfl
theorem bxo_next {ps : List (Int × Int)} {i : Nat} (h : ¬ i = 0) : bxo ps (i + 1) = (mn (bxo ps i).1 (lim 1048576 (ps.getD i (0, 0)).1), mn (bxo ps i).2.1 (lim 1048576 (ps.getD i (0, 0)).2), mx (bxo ps i).2.2.1 (lim 1048576 (ps.getD i (0, 0)).1), mx (bxo ps i).2.2.2 (lim 1048576 (ps.getD i (0, 0)).2)) := by
  simp only [bxo, if_neg h]
end Go.Proofs.Ytomnkdlfmjdckaa.Am.Sp

set_option linter.unusedVariables false
set_option linter.unusedSimpArgs false
namespace Go.Proofs.Ytomnkdlfmjdckaa.Am.Sp
/-- the edge crosses the ray to the right -/
def crR (x y u v : Int) : Bool := if y > v then decide (v < 0) && (decide (0 ≤ y) && decide (u * y - v * x > 0)) else decide (y < 0) && (decide (0 ≤ v) && decide (x * v - y * u > 0))
/-- the corner is in the quarter between the ray to the right and the ray down -/
def qd4 (x y : Int) : Bool := decide (0 ≤ x) && decide (y < 0)
theorem sgnp {a b P : Int} (h : a * b = P) : ((0 < a → 0 < b → 0 < P) ∧ (a < 0 → b < 0 → 0 < P) ∧ (0 < a → b < 0 → P < 0) ∧ (a < 0 → 0 < b → P < 0)) ∧ ((a = 0 → P = 0) ∧ (b = 0 → P = 0)) := by
  subst h
  exact ⟨⟨Int.mul_pos, Int.mul_pos_of_neg_of_neg, fun h k => Int.mul_neg_of_pos_of_neg h k, fun h k => Int.mul_neg_of_neg_of_pos h k⟩, fun h => by rw [h, Int.zero_mul], fun h => by rw [h, Int.mul_zero]⟩
theorem crR_iff (x y u v : Int) : crR x y u v = true ↔ (v < y ∧ (v < 0 ∧ 0 ≤ y) ∧ y * u - x * v > 0) ∨ (y ≤ v ∧ (y < 0 ∧ 0 ≤ v) ∧ x * v - y * u > 0) := by
  have e1 : u * y - v * x = y * u - x * v := by grind
  unfold crR
  rw [e1]
  split <;> simp only [Bool.and_eq_true, decide_eq_true_eq] <;> omega
theorem qd4_iff (x y : Int) : qd4 x y = true ↔ 0 ≤ x ∧ y < 0 := by unfold qd4; simp
theorem ray_prop {x y u v P R S T : Int} (h : ¬ (P - R = 0 ∧ S + T ≤ 0)) (p1 : x * v = P) (p2 : y * u = R) (p3 : x * u = S) (p4 : y * v = T) :
    let A := (v < y ∧ (v < 0 ∧ 0 ≤ y) ∧ R - P > 0) ∨ (y ≤ v ∧ (y < 0 ∧ 0 ≤ v) ∧ P - R > 0)
    let B := (u < x ∧ (u < 0 ∧ 0 ≤ x) ∧ R - P > 0) ∨ (x ≤ u ∧ (x < 0 ∧ 0 ≤ u) ∧ P - R > 0)
    (((A ∧ B) ∨ (¬ A ∧ ¬ B)) ↔ ((0 ≤ x ∧ y < 0) ↔ (0 ≤ u ∧ v < 0))) := by
  replace p1 := sgnp p1
  replace p2 := sgnp p2
  replace p3 := sgnp p3
  replace p4 := sgnp p4
  intro A B
  rcases Int.lt_trichotomy x 0 with a | a | a <;> rcases Int.lt_trichotomy y 0 with b | b | b <;> rcases Int.lt_trichotomy u 0 with c | c | c <;> rcases Int.lt_trichotomy v 0 with d | d | d <;>
    (first | have q1 := p1.1.1 (by assumption) (by assumption) | have q1 := p1.1.2.1 (by assumption) (by assumption) | have q1 := p1.1.2.2.1 (by assumption) (by assumption) | have q1 := p1.1.2.2.2 (by assumption) (by assumption) | have q1 := p1.2.1 (by assumption) | have q1 := p1.2.2 (by assumption)) <;> clear p1 <;>
    (first | have q2 := p2.1.1 (by assumption) (by assumption) | have q2 := p2.1.2.1 (by assumption) (by assumption) | have q2 := p2.1.2.2.1 (by assumption) (by assumption) | have q2 := p2.1.2.2.2 (by assumption) (by assumption) | have q2 := p2.2.1 (by assumption) | have q2 := p2.2.2 (by assumption)) <;> clear p2 <;>
    (first | have q3 := p3.1.1 (by assumption) (by assumption) | have q3 := p3.1.2.1 (by assumption) (by assumption) | have q3 := p3.1.2.2.1 (by assumption) (by assumption) | have q3 := p3.1.2.2.2 (by assumption) (by assumption) | have q3 := p3.2.1 (by assumption) | have q3 := p3.2.2 (by assumption)) <;> clear p3 <;>
    (first | have q4 := p4.1.1 (by assumption) (by assumption) | have q4 := p4.1.2.1 (by assumption) (by assumption) | have q4 := p4.1.2.2.1 (by assumption) (by assumption) | have q4 := p4.1.2.2.2 (by assumption) (by assumption) | have q4 := p4.2.1 (by assumption) | have q4 := p4.2.2 (by assumption)) <;> clear p4 <;> (show (_ ↔ _)) <;> omega
theorem ray_bool {a b c d : Bool} {A B C D : Prop} (h1 : a = true ↔ A) (h2 : b = true ↔ B) (h3 : c = true ↔ C) (h4 : d = true ↔ D) (q : ((A ∧ B) ∨ (¬ A ∧ ¬ B)) ↔ (C ↔ D)) : ((a != b) = (c != d)) := by
  rw [← h1, ← h2, ← h3, ← h4] at q
  cases a <;> cases b <;> cases c <;> cases d <;> simp at q ⊢
/-- an edge that the point is not on: the two rays are crossed alike, exactly if both ends are in the quarter between them, or none -/
theorem ray_edge {x y u v : Int} (h : ¬ (x * v - y * u = 0 ∧ x * u + y * v ≤ 0)) : ((crR x y u v != crR (-y) x (-v) u) = (qd4 x y != qd4 u v)) := by
  have r2 := crR_iff (-y) x (-v) u
  rw [show x * -v - -y * u = y * u - x * v by grind, show -y * u - x * -v = x * v - y * u by grind] at r2
  exact ray_bool (crR_iff ..) r2 (qd4_iff ..) (qd4_iff ..) (ray_prop h rfl rfl rfl rfl)
end Go.Proofs.Ytomnkdlfmjdckaa.Am.Sp
set_option linter.unusedVariables false
set_option linter.unusedSimpArgs false
namespace Go.Proofs.Ytomnkdlfmjdckaa.Am.Sp
def xorp (f : Int × Int → Int × Int → Bool) : Int × Int → List (Int × Int) → Bool
  | _, [] => false
  | a, b :: r => f a b != xorp f b r
def lastp : Int × Int → List (Int × Int) → Int × Int
  | a, [] => a
  | _, b :: r => lastp b r
/-- the edges of a line, seen from the point p -/
def cR (p a b : Int × Int) : Bool := crR (a.1 - p.1) (a.2 - p.2) (b.1 - p.1) (b.2 - p.2)
def cD (p a b : Int × Int) : Bool := crR (-(a.2 - p.2)) (a.1 - p.1) (-(b.2 - p.2)) (b.1 - p.1)
def q4 (p a : Int × Int) : Bool := qd4 (a.1 - p.1) (a.2 - p.2)
/-- no edge of the line has the point -/
def offp (p : Int × Int) : Int × Int → List (Int × Int) → Prop
  | _, [] => True
  | a, b :: r => onb a.1 a.2 b.1 b.2 p.1 p.2 = false ∧ offp p b r
theorem off_ray {p a b : Int × Int} (h : onb a.1 a.2 b.1 b.2 p.1 p.2 = false) : (cR p a b != cD p a b) = (q4 p a != q4 p b) := by
  refine ray_edge fun k => ?_
  have : onb a.1 a.2 b.1 b.2 p.1 p.2 = true := by
    rw [onb_iff]
    constructor
    · have := k.1; unfold crs; grind
    · have := k.2; unfold dot; grind
  rw [h] at this; cases this
theorem par_line (p : Int × Int) : ∀ (l : List (Int × Int)) (a : Int × Int), offp p a l → (xorp (cR p) a l != xorp (cD p) a l) = (q4 p a != q4 p (lastp a l))
  | [], a, _ => by simp [xorp, lastp]
  | b :: r, a, h => by
    have e := off_ray h.1
    have ih := par_line p r b h.2
    simp only [xorp, lastp]
    revert e ih
    cases cR p a b <;> cases cD p a b <;> cases xorp (cR p) b r <;> cases xorp (cD p) b r <;> cases q4 p a <;> cases q4 p b <;> cases q4 p (lastp b r) <;> simp
/-- a closed line: the parity of the crossings is the same for both rays -/
theorem par_ring {p a : Int × Int} {l : List (Int × Int)} (h : offp p a l) (hc : lastp a l = a) : xorp (cR p) a l = xorp (cD p) a l := by
  have e := par_line p l a h
  rw [hc] at e
  revert e
  cases xorp (cR p) a l <;> cases xorp (cD p) a l <;> simp
end Go.Proofs.Ytomnkdlfmjdckaa.Am.Sp
set_option linter.unusedVariables false
set_option linter.unusedSimpArgs false
namespace Go.Proofs.Ytomnkdlfmjdckaa.Am.Sp
def onany (p : Int × Int) : Int × Int → List (Int × Int) → Bool
  | _, [] => false
  | a, b :: r => onb a.1 a.2 b.1 b.2 p.1 p.2 || onany p b r
def hasv (p a : Int × Int) (l : List (Int × Int)) : Int := if onany p a l = true then 0 else if xorp (cR p) a l = true then 1 else -1
theorem off_iff (p : Int × Int) : ∀ (l : List (Int × Int)) (a : Int × Int), offp p a l ↔ onany p a l = false
  | [], a => by simp [offp, onany]
  | b :: r, a => by simp only [offp, onany, off_iff p r b, Bool.or_eq_false_iff]
def move2 (d a : Int × Int) : Int × Int := (a.1 + d.1, a.2 + d.2)
theorem onb_move2 (d a b p : Int × Int) : onb (move2 d a).1 (move2 d a).2 (move2 d b).1 (move2 d b).2 (move2 d p).1 (move2 d p).2 = onb a.1 a.2 b.1 b.2 p.1 p.2 := by
  rw [Bool.eq_iff_iff, onb_iff, onb_iff]
  have e1 : crs (move2 d a).1 (move2 d a).2 (move2 d b).1 (move2 d b).2 (move2 d p).1 (move2 d p).2 = crs a.1 a.2 b.1 b.2 p.1 p.2 := by unfold move2 crs; grind
  have e2 : dot (move2 d p).1 (move2 d p).2 (move2 d a).1 (move2 d a).2 (move2 d b).1 (move2 d b).2 = dot p.1 p.2 a.1 a.2 b.1 b.2 := by unfold move2 dot; grind
  rw [e1, e2]
end Go.Proofs.Ytomnkdlfmjdckaa.Am.Sp
set_option linter.unusedVariables false
set_option linter.unusedSimpArgs false
namespace Go.Proofs.Ytomnkdlfmjdckaa.Am.Sp
def limp (q : Int × Int) : Int × Int := (lim 1048576 q.1, lim 1048576 q.2)
/-- the test of an edge, as the code makes it -/
def crX (ax ay bx by_ x y : Int) : Bool := if ay > by_ then decide (by_ < y) && (decide (y ≤ ay) && decide (cmp (crs bx by_ ax ay x y) 0 > 0)) else decide (ay < y) && (decide (y ≤ by_) && decide (cmp (crs ax ay bx by_ x y) 0 > 0))
def cA (ps : List (Int × Int)) (i : Nat) : Int := lim 1048576 (ps.getD i (0, 0)).1
def cB (ps : List (Int × Int)) (i : Nat) : Int := lim 1048576 (ps.getD i (0, 0)).2
def hasF (ps : List (Int × Int)) (x y : Int) (i : Nat) (out : Int) : Int :=
  if i < ps.length then
    if onb (cA ps i) (cB ps i) (cA ps ((i + 1) % ps.length)) (cB ps ((i + 1) % ps.length)) x y = true then 0
    else hasF ps x y (i + 1) (if crX (cA ps i) (cB ps i) (cA ps ((i + 1) % ps.length)) (cB ps ((i + 1) % ps.length)) x y = true then 0 - out else out)
  else out
termination_by ps.length - i
theorem hasF_end {ps : List (Int × Int)} {x y : Int} {i : Nat} {out : Int} (h : ¬ i < ps.length) : hasF ps x y i out = out := by rw [hasF, if_neg h]
theorem hasF_on {ps : List (Int × Int)} {x y : Int} {i j : Nat} {out : Int} (h : i < ps.length) (hj : (i + 1) % ps.length = j) (o : onb (cA ps i) (cB ps i) (cA ps j) (cB ps j) x y = true) : hasF ps x y i out = 0 := by
  rw [hasF, if_pos h, hj, if_pos o]
theorem hasF_cr {ps : List (Int × Int)} {x y : Int} {i j : Nat} {out : Int} (h : i < ps.length) (hj : (i + 1) % ps.length = j) (o : onb (cA ps i) (cB ps i) (cA ps j) (cB ps j) x y = false) (c : crX (cA ps i) (cB ps i) (cA ps j) (cB ps j) x y = true) : hasF ps x y (i + 1) (0 - out) = hasF ps x y i out := by
  conv => rhs; rw [hasF, if_pos h, hj, if_neg (by rw [o]; decide), if_pos c]
theorem hasF_no {ps : List (Int × Int)} {x y : Int} {i j : Nat} {out : Int} (h : i < ps.length) (hj : (i + 1) % ps.length = j) (o : onb (cA ps i) (cB ps i) (cA ps j) (cB ps j) x y = false) (c : crX (cA ps i) (cB ps i) (cA ps j) (cB ps j) x y = false) : hasF ps x y (i + 1) out = hasF ps x y i out := by
  conv => rhs; rw [hasF, if_pos h, hj, if_neg (by rw [o]; decide), if_neg (by rw [c]; decide)]
variable {ax ay bx b_y x y : Int}
theorem crX_d1 (h : decide (ay > b_y) = true) (h1 : decide (b_y < y) = false) : crX ax ay bx b_y x y = false := by unfold crX; rw [if_pos (of_decide_eq_true h), h1]; rfl
theorem crX_d2 (h : decide (ay > b_y) = true) (h1 : decide (b_y < y) = true) (h2 : decide (y ≤ ay) = false) : crX ax ay bx b_y x y = false := by unfold crX; rw [if_pos (of_decide_eq_true h), h1, h2]; rfl
theorem crX_d3 (h : decide (ay > b_y) = true) (h1 : decide (b_y < y) = true) (h2 : decide (y ≤ ay) = true) (h3 : decide (cmp (crs bx b_y ax ay x y) 0 > 0) = false) : crX ax ay bx b_y x y = false := by unfold crX; rw [if_pos (of_decide_eq_true h), h1, h2, h3]; rfl
theorem crX_d4 (h : decide (ay > b_y) = true) (h1 : decide (b_y < y) = true) (h2 : decide (y ≤ ay) = true) (h3 : decide (cmp (crs bx b_y ax ay x y) 0 > 0) = true) : crX ax ay bx b_y x y = true := by unfold crX; rw [if_pos (of_decide_eq_true h), h1, h2, h3]; rfl
theorem crX_u1 (h : decide (ay > b_y) = false) (h1 : decide (ay < y) = false) : crX ax ay bx b_y x y = false := by unfold crX; rw [if_neg (of_decide_eq_false h), h1]; rfl
theorem crX_u2 (h : decide (ay > b_y) = false) (h1 : decide (ay < y) = true) (h2 : decide (y ≤ b_y) = false) : crX ax ay bx b_y x y = false := by unfold crX; rw [if_neg (of_decide_eq_false h), h1, h2]; rfl
theorem crX_u3 (h : decide (ay > b_y) = false) (h1 : decide (ay < y) = true) (h2 : decide (y ≤ b_y) = true) (h3 : decide (cmp (crs ax ay bx b_y x y) 0 > 0) = false) : crX ax ay bx b_y x y = false := by unfold crX; rw [if_neg (of_decide_eq_false h), h1, h2, h3]; rfl
theorem crX_u4 (h : decide (ay > b_y) = false) (h1 : decide (ay < y) = true) (h2 : decide (y ≤ b_y) = true) (h3 : decide (cmp (crs ax ay bx b_y x y) 0 > 0) = true) : crX ax ay bx b_y x y = true := by unfold crX; rw [if_neg (of_decide_eq_false h), h1, h2, h3]; rfl
theorem cmpd_pos (n : Int) : decide (cmp n 0 > 0) = decide (0 < n) := by unfold cmp; split <;> (try split) <;> simp <;> omega
/-- the test is the crossing of the ray to the right, seen from the point -/
theorem crX_cR (ax ay bx b_y x y : Int) : crX ax ay bx b_y x y = cR (x, y) (ax, ay) (bx, b_y) := by
  rw [Bool.eq_iff_iff]; unfold cR; rw [crR_iff]; unfold crX
  rw [cmpd_pos, cmpd_pos]
  have e1 : crs bx b_y ax ay x y = (ay - y) * (bx - x) - (ax - x) * (b_y - y) := by unfold crs; grind
  have e2 : crs ax ay bx b_y x y = (ax - x) * (b_y - y) - (ay - y) * (bx - x) := by unfold crs; grind
  rw [e1, e2]
  generalize (ay - y) * (bx - x) = P
  generalize (ax - x) * (b_y - y) = Q
  split <;> simp only [Bool.and_eq_true, decide_eq_true_eq] <;> omega
theorem getD_lt {l : List (Int × Int)} {i : Nat} {d : Int × Int} (h : i < l.length) : l.getD i d = l[i] := by simp [List.getD, h]
theorem hasF_line (ps : List (Int × Int)) (x y : Int) (b0 : Int × Int) (rest : List (Int × Int)) (hp : ps = b0 :: rest) : ∀ (k i : Nat) (out : Int), i + k = ps.length →
    hasF ps x y i out = if onany (x, y) ((ps.map limp ++ [limp b0]).getD i (0, 0)) ((ps.map limp ++ [limp b0]).drop (i + 1)) = true then 0 else if xorp (cR (x, y)) ((ps.map limp ++ [limp b0]).getD i (0, 0)) ((ps.map limp ++ [limp b0]).drop (i + 1)) = true then 0 - out else out
  | 0, i, out, h => by
    rw [hasF_end (by omega), List.drop_of_length_le (by simp; omega)]
    simp [onany, xorp]
  | k + 1, i, out, h => by
    have hlt : i < ps.length := by omega
    have hM : (ps.map limp ++ [limp b0]).length = ps.length + 1 := by simp
    have hd : (ps.map limp ++ [limp b0]).drop (i + 1) = (ps.map limp ++ [limp b0]).getD (i + 1) (0, 0) :: (ps.map limp ++ [limp b0]).drop (i + 2) := by
      rw [List.drop_eq_getElem_cons (by omega), getD_lt (by omega)]
    have ha : (ps.map limp ++ [limp b0]).getD i (0, 0) = (cA ps i, cB ps i) := by
      rw [getD_lt (by omega), List.getElem_append_left (by simpa using hlt), List.getElem_map]
      unfold cA cB limp; rw [getD_lt hlt]
    have hb : (ps.map limp ++ [limp b0]).getD (i + 1) (0, 0) = (cA ps ((i + 1) % ps.length), cB ps ((i + 1) % ps.length)) := by
      by_cases e : i + 1 = ps.length
      · rw [e, Nat.mod_self, getD_lt (by omega), List.getElem_append_right (by simp)]
        unfold cA cB; subst hp; simp [limp]
      · have hl : i + 1 < ps.length := by omega
        rw [Nat.mod_eq_of_lt hl, getD_lt (by omega), List.getElem_append_left (by simpa using hl), List.getElem_map]
        unfold cA cB limp; rw [getD_lt hl]
    have ih := hasF_line ps x y b0 rest hp k (i + 1)
    rw [hasF, if_pos hlt, ih _ (by omega), hd, onany, xorp, hb, ha, crX_cR]
    generalize onany (x, y) _ _ = O
    generalize xorp _ _ _ = X
    generalize onb _ _ _ _ _ _ = o
    generalize cR _ _ _ = c
    cases O <;> cases X <;> cases o <;> cases c <;> simp <;> omega
/-- what ring.Has answers of a ring that is not empty -/
theorem hasF_eq (a : Int × Int) (t : List (Int × Int)) (x y : Int) : hasF (a :: t) x y 0 (-1) = hasv (x, y) (limp a) (t.map limp ++ [limp a]) := by
  rw [hasF_line (a :: t) x y a t rfl (a :: t).length 0 (-1) (by omega)]
  rfl
end Go.Proofs.Ytomnkdlfmjdckaa.Am.Sp

namespace Go.Proofs.Ytomnkdlfmjdckaa.Am
open Go
set_option linter.unusedVariables false
def renS : List (Nat × Nat) → Nat → Nat
  | [], k => k
  | (a, b) :: l, k => bif Nat.beq k a then b else renS l k
def RenT (σ : Nat → Nat) (p : Nat → Prop) : List (Nat × Value) → List (Nat × Value) → Prop
  | [], [] => True
  | (t, v) :: l, (t0, v0) :: l0 => t = t0 ∧ RenV σ p v v0 ∧ RenT σ p l l0
  | _, _ => False
theorem RenT.left {σ : Nat → Nat} {p : Nat → Prop} {l l0 : List (Nat × Value)} (h : RenT σ p l l0) {t : Nat} {v : Value} (hm : (t, v) ∈ l) : ∃ v0, (t, v0) ∈ l0 ∧ RenV σ p v v0 := by
  induction l generalizing l0 with
  | nil => cases hm
  | cons x l ih =>
    cases l0 with
    | nil => exact h.elim
    | cons y l0 =>
      obtain ⟨h1, h2, h3⟩ := h
      cases hm with
      | head => obtain ⟨t0, v0⟩ := y; have h1 : t = t0 := h1; subst h1; exact ⟨v0, List.mem_cons_self, h2⟩
      | tail _ hm => obtain ⟨v0, a, b⟩ := ih h3 hm; exact ⟨v0, List.mem_cons_of_mem _ a, b⟩
def renChk (m : Nat) (ren : List (Nat × Nat)) (ks : List Nat) : Bool :=
  ren.all (fun x => Nat.ble m x.1) && ks.all (fun i => (Nat.blt i m || Nat.ble m (renS ren i)) && ks.all (fun j => Nat.beq i j || !Nat.beq (renS ren i) (renS ren j)))
theorem renS_lt {m : Nat} {ren : List (Nat × Nat)} (h : ren.all (fun x => Nat.ble m x.1) = true) {k : Nat} (hk : k < m) : renS ren k = k := by
  induction ren with
  | nil => rfl
  | cons x l ih =>
    obtain ⟨a, b⟩ := x
    rw [List.all_cons, Bool.and_eq_true] at h
    have h1 := Nat.le_of_ble_eq_true h.1
    have : Nat.beq k a = false := by
      cases hb : Nat.beq k a with
      | false => rfl
      | true => have := Nat.eq_of_beq_eq_true hb; have h1 : m ≤ a := h1; omega
    simp only [renS, this, cond_false]
    exact ih h.2
theorem weak_ren {C : Ctx} {S : St} {T T0 : List (Nat × Value)} {L L0 : List (Nat × Blk)} (ren : List (Nat × Nat)) (hT : AllT S T0) (hL : AllH S L0) (rT : RenT (renS ren) (keyB C.m L) T T0) (rL : RenH (renS ren) (keyB C.m L) L L0)
    (hc : renChk C.m ren (L.map (·.1)) = true) : Weak C S (mkSt C.m T L) := by
  unfold renChk at hc
  rw [Bool.and_eq_true] at hc
  obtain ⟨c1, c2⟩ := hc
  have sl : ∀ k, k < C.m → renS ren k = k := fun k hk => renS_lt c1 hk
  have mem : ∀ k, keyB C.m L k → k < C.m ∨ k ∈ L.map (·.1) := fun k hk => by
    unfold keyB at hk
    rw [Bool.or_eq_true] at hk
    exact hk.imp blt_lt any_beq.1
  have inj : ∀ i j, i ∈ L.map (·.1) → j ∈ L.map (·.1) → renS ren i = renS ren j → i = j := fun i j hi hj e => by
    have h := List.all_eq_true.1 c2 i hi
    rw [Bool.and_eq_true] at h
    have h := List.all_eq_true.1 h.2 j hj
    rw [Bool.or_eq_true] at h
    rcases h with h | h
    · exact Nat.eq_of_beq_eq_true h
    · rw [e] at h; simp at h
  intro ρ a w h
  have hdf : ∀ k b, base C.m k ≠ .live b := fun k b e => by unfold base at e; cases hh : Nat.blt k C.m <;> rw [hh] at e <;> cases e
  let ρ' : Ren := fun k => bif (Nat.blt k C.m || (L.map (·.1)).any (Nat.beq k)) then ρ (renS ren k) else none
  have hp : ∀ k, keyB C.m L k → ρ' k = ρ (renS ren k) := fun k hk => by
    have hk' : (Nat.blt k C.m || (L.map (·.1)).any (Nat.beq k)) = true := hk
    simp only [ρ', hk', cond_true]
  have hlive : ∀ k b, ofH (base C.m k) L k = .live b → ∃ b0, S.H (renS ren k) = .live b0 ∧ RenB (renS ren) (keyB C.m L) b b0 ∧ k ∈ L.map (·.1) ∧ keyB C.m L k := fun k b hk => by
    have hm := ofH_live (hdf k) hk
    obtain ⟨b0, m0, r0⟩ := rL.left hm
    have hmem : k ∈ L.map (·.1) := List.mem_map.2 ⟨(k, b), hm, rfl⟩
    exact ⟨b0, hL.mem m0, r0, hmem, by unfold keyB; rw [any_beq.2 hmem]; simp⟩
  refine ⟨ρ', h.size, h.defers, fun t v hv => ?_, ⟨fun k hk => ?_, fun k b hk => ?_, ?_⟩, h.frame, fun k b sp hk ho hsp => ?_, fun k hk => ?_⟩
  · obtain ⟨v0, m0, r0⟩ := rT.left (ofT_some hv)
    obtain ⟨v', h1, h2⟩ := h.temps t v0 (hT.mem m0)
    exact ⟨v', h1, r0.into hp h2⟩
  · have hk2 : ofH (base C.m k) L k = .fresh := hk
    have hn : ¬ (Nat.blt k C.m || (L.map (·.1)).any (Nat.beq k)) = true := fun hb => by
      by_cases hm : k ∈ L.map (·.1)
      · obtain ⟨b, hb'⟩ := ofH_key (d := base C.m k) hm
        rw [hb'] at hk2; cases hk2
      · rw [ofH_nokey hm] at hk2
        rw [Bool.or_eq_true] at hb
        rcases hb with hb | hb
        · unfold base at hk2; rw [hb] at hk2; cases hk2
        · exact hm (any_beq.1 hb)
    simp only [ρ', hn, cond_false]
  · obtain ⟨b0, h1, r0, hm, h3⟩ := hlive k b hk
    obtain ⟨sp, e1, e2⟩ := h.heap.live _ b0 h1
    exact ⟨sp, by rw [hp k h3]; exact e1, r0.into hp e2⟩
  · intro k1 k2 b1 b2 sp1 sp2 hne h1 h2 ho nv e1 e2
    obtain ⟨c1, a1, r1, m1, q1⟩ := hlive k1 b1 h1
    obtain ⟨c2, a2, r2, m2, q2⟩ := hlive k2 b2 h2
    rw [hp k1 q1] at e1
    rw [hp k2 q2] at e2
    exact h.heap.apart _ _ c1 c2 sp1 sp2 (fun e => hne (inj _ _ m1 m2 e)) a1 a2 (by rw [r1.own]; exact ho) (fun v => nv (r2.void.2 v)) e1 e2
  · obtain ⟨b0, a0, r0, _, q⟩ := hlive k b hk
    rw [hp k q] at hsp
    exact h.owned _ b0 sp a0 (by rw [r0.own]; exact ho) hsp
  · obtain ⟨sp, p1, p2⟩ := h.pin k hk
    refine ⟨sp, p1, ?_⟩
    rw [hp k (by unfold keyB; rw [show Nat.blt k C.m = true from Nat.ble_eq_true_of_le hk]; rfl), sl k hk]; exact p2
theorem al_r {C : Ctx} {P : Program} {Q : Exit → St → Prop} {c : Code} {S : St} (ren : List (Nat × Nat)) (T0 : List (Nat × Value)) (L0 : List (Nat × Blk)) (T : List (Nat × Value)) (L : List (Nat × Blk)) (h : AL C P c (mkSt C.m T L) Q)
    (rT : RenT (renS ren) (keyB C.m L) T T0) (rL : RenH (renS ren) (keyB C.m L) L L0) (hc : renChk C.m ren (L.map (·.1)) = true := by kernel_rfl) (hT : T0.map (fun x => S.T x.1) = T0.map (fun x => some x.2) := by kernel_rfl)
    (hL : L0.map (fun x => S.H x.1) = L0.map (fun x => .live x.2) := by kernel_rfl) : AL C P c S Q := al_weak (weak_ren ren (allT_of hT) (allH_of hL) rT rL hc) h
theorem aw_r {C : Ctx} {P : Program} {Q : Exit → St → Prop} {c : Code} {S : St} (ren : List (Nat × Nat)) (T0 : List (Nat × Value)) (L0 : List (Nat × Blk)) (T : List (Nat × Value)) (L : List (Nat × Blk)) (h : AW C P c (mkSt C.m T L) Q)
    (rT : RenT (renS ren) (keyB C.m L) T T0) (rL : RenH (renS ren) (keyB C.m L) L L0) (hc : renChk C.m ren (L.map (·.1)) = true := by kernel_rfl) (hT : T0.map (fun x => S.T x.1) = T0.map (fun x => some x.2) := by kernel_rfl)
    (hL : L0.map (fun x => S.H x.1) = L0.map (fun x => .live x.2) := by kernel_rfl) : AW C P c S Q := aw_weak (weak_ren ren (allT_of hT) (allH_of hL) rT rL hc) h
section
variable {C : Ctx} {P : Program} {ops : Array Oper} {S : St} {i : Nat}
theorem does_apx {x y : Operand} {t e : TypeId} {inf : TypeInfo} {zv : Value} {k n c k2 m c2 k' : Nat} {b b2 : Blk} (l : List Value) (hs : appAt P ops S i = some (x, y, t, e, inf, zv))
    (hx : ev S x = some (.slice (some ⟨k, 0, none⟩) n c)) (hy : ev S y = some (.slice (some ⟨k2, 0, none⟩) m c2)) (hH : S.H k = .live b) (hH2 : S.H k2 = .live b2) (hK : S.H k' = .fresh)
    (hz : (b.own && Nat.beq b.elem e && Nat.beq b.step inf.size && plainAll b2.cells && Nat.beq (m * inf.size) b2.cells.length && Nat.ble 1 m) = true) (hn : b.cells.length = n * inf.size)
    (hB : (n + m) * inf.bytes ≤ 140737488355328) (hM : n + m ≤ 4611686018427387904) (hl : b.cells ++ b2.cells = l) :
    Does C P ops i S ⟨[k, k2, k'], .slice (some ⟨k', 0, none⟩) (n + m) 0, [(k, .gone), (k', .live ⟨l, e, true, inf.size⟩)]⟩ := by
  simp only [Bool.and_eq_true] at hz
  obtain ⟨⟨⟨⟨⟨z1, z2⟩, z3⟩, z4⟩, z5⟩, z6⟩ := hz
  have q := Nat.eq_of_beq_eq_true z5
  have e2 : (b2.cells.drop 0).take (m * inf.size) = b2.cells := by rw [List.drop_zero, q, List.take_length]
  have e1 : (b.cells.drop 0).take (n * inf.size) = b.cells := by rw [List.drop_zero, ← hn, List.take_length]
  have h := does_append (C := C) (P := P) (ops := ops) (S := S) (i := i) hs hx hy hH hH2 hK (by
    simp only [Bool.and_eq_true, e2]
    refine ⟨⟨⟨⟨⟨⟨z1, z2⟩, z3⟩, z4⟩, Nat.ble_eq_true_of_le (by omega)⟩, Nat.ble_eq_true_of_le (by omega)⟩, z6⟩) hB hM
  rw [e1, e2, hl] at h
  exact h
end
section
variable {C : Ctx} {P : Program} {ops : Array Oper} {S : St} {i : Nat}
/-- what an append looks at -/
def apyAt (P : Program) (ops : Array Oper) (S : St) (i : Nat) : Option (Nat × Nat × Nat × Option Value × Option Value) := match appAt P ops S i with
  | some (x, y, _, e, inf, _) => some (e, inf.size, inf.bytes, ev S x, ev S y)
  | none => none
theorem does_apy (k' e z bt k n k2 m : Nat) (b b2 : Blk) (l : List Value) (h1 : apyAt P ops S i = some (e, z, bt, some (.slice (some ⟨k, 0, none⟩) n 0), some (.slice (some ⟨k2, 0, none⟩) m 0)))
    (hH : S.H k = .live b) (hH2 : S.H k2 = .live b2) (hK : S.H k' = .fresh)
    (hz : (b.own && Nat.beq b.elem e && Nat.beq b.step z && plainAll b2.cells && Nat.beq (m * z) b2.cells.length && Nat.ble 1 m) = true) (hn : b.cells.length = n * z)
    (hB : (n + m) * bt ≤ 140737488355328) (hM : n + m ≤ 4611686018427387904) (hl : b.cells ++ b2.cells = l) :
    Does C P ops i S ⟨[k, k2, k'], .slice (some ⟨k', 0, none⟩) (n + m) 0, [(k, .gone), (k', .live ⟨l, e, true, z⟩)]⟩ := by
  unfold apyAt at h1
  split at h1
  · rename_i x y t e' inf zv hs
    simp only [Option.some.injEq, Prod.mk.injEq] at h1
    obtain ⟨rfl, rfl, rfl, hx, hy⟩ := h1
    exact does_apx l hs hx hy hH hH2 hK hz hn hB hM hl
  · cases h1
end
end Go.Proofs.Ytomnkdlfmjdckaa.Am
namespace Go.Proofs.Ytomnkdlfmjdckaa.Am
open Go Go.RowKit
set_option linter.unusedVariables false
set_option linter.unusedSimpArgs false
section
variable {C : Ctx} {P : Program} {ops : Array Oper} {S : St} {i : Nat}
theorem does_append0 {x y : Operand} {t e : TypeId} {inf : TypeInfo} {zv : Value} {k n c k2 off2 c2 k' : Nat} {b : Blk} (hs : appAt P ops S i = some (x, y, t, e, inf, zv))
    (hx : ev S x = some (.slice (some ⟨k, 0, none⟩) n c)) (hy : ev S y = some (.slice (some ⟨k2, off2, none⟩) 0 c2)) (hH : S.H k = .live b) (hK : S.H k' = .fresh) (hn1 : 1 ≤ n)
    (hz : (b.own && Nat.beq b.elem e && Nat.beq b.step inf.size) = true) :
    Does C P ops i S ⟨[k, k2, k'], .slice (some ⟨k', 0, none⟩) n 0, [(k, .gone), (k', .live ⟨b.cells, e, true, inf.size⟩)]⟩ := by
  obtain ⟨hsh, hu, hi, hzv, hzs⟩ := appAt_spec hs
  refine .of_run hsh fun o ho S' ρ a w hT hH' hr => ?_
  simp only [Bool.and_eq_true] at hz
  obtain ⟨⟨b1, b2'⟩, b3⟩ := hz
  have eel := Nat.eq_of_beq_eq_true b2'
  have est := Nat.eq_of_beq_eq_true b3
  have hrx := ev_rel hr (by rw [hT x (by simp [Op.operands, Call.operands])]; exact hx)
  have hry := ev_rel hr (by rw [hT y (by simp [Op.operands, Call.operands])]; exact hy)
  generalize hax : a.eval x = ax at hrx
  generalize hay : a.eval y = ay at hry
  have hHk : S'.H k = .live b := by rw [hH' k (by simp)]; exact hH
  have hHf : S'.H k' = .fresh := by rw [hH' k' (by simp)]; exact hK
  cases hrx with
  | slice0 => omega
  | slice _ _ _ _ cap sp hk hc1 hs1 =>
    obtain ⟨q1, e1, e2⟩ := hr.heap.live k b hHk
    rw [hk] at e1; cases e1
    have e2' := e2
    rw [BlkOk.own b1] at e2'
    obtain ⟨st, cur, hg, hcs, hcl, hcc⟩ := e2'
    obtain ⟨hle, hm⟩ := Rel.move hr (k := k) (k' := k') (d := 0) (b := b) (b' := ⟨b.cells, e, true, inf.size⟩) hHk b1 hk hHf (by omega) rfl eel.symm est.symm (by show b.cells.length ≤ _; omega) (fun j u hu => by rw [Nat.zero_add]; exact hu)
    have key : ∀ (A : Option Addr) (c : Nat), (Builtin.append_ #[t, t] o.type #[.slice (some ⟨sp.block, sp.off + 0, none⟩) n cap, .slice A 0 c]).run P w = .ok (.slice (some ⟨sp.block, sp.off + 0, none⟩) n cap) w := by
      intro A c
      have hf : (Builtin.firstCells inf.size 0 (.slice A 0 c)).run P w = .ok #[] w := by
        cases A with
        | none => exact run_firstCells_none _ _ _ _ _
        | some A => exact run_firstCells_some (P := P) w inf.size 0 A 0 c [] (by simp) (by simp)
      simp [Builtin.append_, run_underlying hu, sizeOf, typeInfo, hi, Builtin.lenOf, hc1, hf, storeCells]
    have hval : VRel (upd ρ k' (some ⟨sp.block, sp.off + 0, sp.size - 0, sp.step⟩)) (.slice (some ⟨k', 0, none⟩) n 0) (.slice (some ⟨sp.block, sp.off + 0, none⟩) n cap) :=
      .slice k' 0 n 0 cap ⟨sp.block, sp.off + 0, sp.size - 0, sp.step⟩ (upd_self _ _ _) hc1 (by show 0 + cap * sp.step ≤ sp.size - 0; omega)
    cases hry with
    | slice0 _ _ _ A =>
      refine ⟨_, w, _, .slice (some ⟨sp.block, sp.off + 0, none⟩) n cap, ?_, .inl rfl, hval, hm⟩
      have ev1 : (#[x, y] : Array Operand).map a.eval = #[.slice (some ⟨sp.block, sp.off + 0, none⟩) n cap, .slice A 0 0] := by simp [hax, hay]
      simp only [execOp, ho, resolve, ev1, Sem.run_bind, Sem.run_pure, Result.andThen_ok, invoke, builtin, key]
    | slice _ _ _ _ cap2 sp2 hk2 hc2 hs2 =>
      refine ⟨_, w, _, .slice (some ⟨sp.block, sp.off + 0, none⟩) n cap, ?_, .inl rfl, hval, hm⟩
      have ev1 : (#[x, y] : Array Operand).map a.eval = #[.slice (some ⟨sp.block, sp.off + 0, none⟩) n cap, .slice (some ⟨sp2.block, sp2.off + off2, none⟩) 0 cap2] := by simp [hax, hay]
      simp only [execOp, ho, resolve, ev1, Sem.run_bind, Sem.run_pure, Result.andThen_ok, invoke, builtin, key]
end
end Go.Proofs.Ytomnkdlfmjdckaa.Am
namespace Go.Proofs.Ytomnkdlfmjdckaa.Am
open Go
set_option linter.unusedVariables false
set_option linter.unusedSimpArgs false
section
variable {C : Ctx} {P : Program} {ops : Array Oper} {S : St} {i : Nat}
def mkAt (P : Program) (ops : Array Oper) (S : St) (i : Nat) : Option (TypeId × Nat × Nat × Value × Option Value × Option Value) := match shapeAt ops S i with
  | some (.makeSlice t x y, true) => match sliceElem P t with
    | some e => match P.info? e with
      | some inf => match inf.zero with
        | some z => some (e, inf.size, inf.bytes, z, ev S x, ev S y)
        | none => none
      | none => none
    | none => none
  | _ => none
theorem does_mk (k e z bt : Nat) (n c : Nat) (zv : Value) (cells : List Value) {kl kc : IntKind} {n' c' : Int} (h1 : mkAt P ops S i = some (e, z, bt, zv, some (.int kl n'), some (.int kc c'))) (hk : S.H k = .fresh)
    (hf : cells.all flatB = true) (hc : (madeCells zv.cells (n * z)).toList = cells) (hn : n' = (n : Int)) (hc' : c' = (c : Int)) (hnc : n ≤ c) (hB : bt * c ≤ 140737488355328) (hM : c ≤ 4611686018427387904) :
    Does C P ops i S ⟨[k], .slice (some ⟨k, 0, none⟩) n 0, [(k, .live ⟨cells, e, true, z⟩)]⟩ := by
  subst hn hc'
  unfold mkAt at h1
  split at h1
  · rename_i t x y hs
    split at h1
    · rename_i e' he
      split at h1
      · rename_i inf hi
        split at h1
        · rename_i z' hz
          simp only [Option.some.injEq, Prod.mk.injEq] at h1
          obtain ⟨rfl, rfl, rfl, rfl, hx, hy⟩ := h1
          refine .of_run hs fun o ho S' ρ a w hT hH' hr => ?_
          have hu : P.underlying t = some (.slice e') := sliceElem_spec he
          have hrx := ev_rel hr (by rw [hT x (by simp [Op.operands])]; exact hx)
          have hry := ev_rel hr (by rw [hT y (by simp [Op.operands])]; exact hy)
          generalize hax : a.eval x = ax at hrx
          generalize hay : a.eval y = ay at hry
          cases hrx
          cases hry
          have hB2 : (inf.bytes : Int) * (c : Int) ≤ 281474976710656 := by
            rw [← Int.natCast_mul]; omega
          have hrun := run_make (P := P) w t e' inf z' hu hi hz kl kc (n : Int) (c : Int) (by omega) (by omega) hB2 (by omega)
          rw [Int.toNat_natCast, Int.toNat_natCast] at hrun
          have hle : n * inf.size ≤ c * inf.size := Nat.mul_le_mul_right _ hnc
          subst hc
          obtain ⟨hfr, hrel⟩ := Rel.new hr (by rw [hH' k (by simp)]; exact hk) (cells := (madeCells z'.cells (n * inf.size)).toList) (c := madeCells z'.cells (c * inf.size)) (e := e') (st := inf.size) (by rw [Array.length_toList, size_madeCells, size_madeCells]; exact hle)
            (fun j u hu => by
              have hj := (List.getElem?_eq_some_iff.1 hu).1
              rw [Array.length_toList, size_madeCells] at hj
              have hfl := only_flat (p := fun _ => False) (List.all_eq_true.1 hf u (List.mem_of_getElem? hu))
              refine ⟨u, ?_, .of_only (only_flat (List.all_eq_true.1 hf u (List.mem_of_getElem? hu)))⟩
              rw [Array.getElem?_toList] at hu
              unfold madeCells at hu ⊢
              rw [Array.getElem?_map, Array.getElem?_range] at hu ⊢
              rw [if_pos hj] at hu
              rw [if_pos (by omega)]
              exact hu)
          refine ⟨_, _, _, .slice (some ⟨w.heap.size, 0, none⟩) n c, ?_, .inl rfl, ?_, hrel⟩
          · simp only [execOp, ho, hax, hay, hrun, Sem.run_bind, Sem.run_pure, Result.andThen_ok]
          · refine .slice k 0 n 0 c _ (upd_self _ _ _) hnc ?_
            show 0 + c * inf.size ≤ (madeCells z'.cells (c * inf.size)).size
            rw [size_madeCells]; omega
        · cases h1
      · cases h1
    · cases h1
  · cases h1
end
end Go.Proofs.Ytomnkdlfmjdckaa.Am

set_option linter.unusedVariables false
set_option linter.unusedSimpArgs false
namespace Go.Proofs.Ytomnkdlfmjdckaa.Am.Sp
open Go
theorem getD_mem {ps : List (Int × Int)} {q : Int × Int} (h : q ∈ ps) : ∃ i, ps.getD i (0, 0) = q := by
  obtain ⟨i, hi, e⟩ := List.mem_iff_getElem.1 h
  exact ⟨i, by rw [getD_lt hi, e]⟩
theorem getD_map {f : Int × Int → Int × Int} {ps : List (Int × Int)} {i : Nat} (h : i < ps.length) : (ps.map f).getD i (0, 0) = f (ps.getD i (0, 0)) := by
  rw [getD_lt (by simpa using h), getD_lt h, List.getElem_map]
theorem take_snoc {f : Int × Int → Int × Int} {ps : List (Int × Int)} {i : Nat} (h : i < ps.length) : (ps.take (i + 1)).map f = (ps.take i).map f ++ [f (ps.getD i (0, 0))] := by
  rw [List.take_succ_eq_append_getElem h, List.map_append, getD_lt h]; rfl
theorem snoc_take {f : Int × Int → Int × Int} {ps : List (Int × Int)} {i : Nat} {l : List Value} (h : i < ps.length) (hl : ptc (f (ps.getD i (0, 0))) = l) : ((ps.take i).map f).flatMap ptc ++ l = ((ps.take (i + 1)).map f).flatMap ptc := by
  rw [take_snoc h, List.flatMap_append, ← hl]; simp
/-- all coordinates are small -/
def Few (m : Int) (ps : List (Int × Int)) : Prop := ∀ i, (-m ≤ (ps.getD i (0, 0)).1 ∧ (ps.getD i (0, 0)).1 ≤ m) ∧ (-m ≤ (ps.getD i (0, 0)).2 ∧ (ps.getD i (0, 0)).2 ≤ m)
theorem few_of {m : Int} {ps : List (Int × Int)} (hm : 0 ≤ m) (h : ∀ q ∈ ps, (-m ≤ q.1 ∧ q.1 ≤ m) ∧ (-m ≤ q.2 ∧ q.2 ≤ m)) : Few m ps := by
  intro i
  by_cases hi : i < ps.length
  · rw [getD_lt hi]; exact h _ (List.getElem_mem hi)
  · simp [List.getD, List.getElem?_eq_none (Nat.le_of_not_lt hi)]; omega
theorem few_mem {m : Int} {ps : List (Int × Int)} (h : Few m ps) {q : Int × Int} (hq : q ∈ ps) : (-m ≤ q.1 ∧ q.1 ≤ m) ∧ (-m ≤ q.2 ∧ q.2 ≤ m) := by
  obtain ⟨i, e⟩ := getD_mem hq
  rw [← e]; exact h i
theorem limp_few {q : Int × Int} (h : (-1048576 ≤ q.1 ∧ q.1 ≤ 1048576) ∧ (-1048576 ≤ q.2 ∧ q.2 ≤ 1048576)) : limp q = q := by
  unfold limp; rw [lim_id h.1.1 h.1.2, lim_id h.2.1 h.2.2]
theorem map_limp {m : Int} {ps : List (Int × Int)} (hm : m ≤ 1048576) (h : Few m ps) : ps.map limp = ps := by
  have : ps.map limp = ps.map id := List.map_congr_left fun q hq => by have := few_mem h hq; exact limp_few (by omega)
  rw [this, List.map_id]
theorem hasv_lim {ps : List (Int × Int)} (h0 : 0 < ps.length) (hs : ps.map limp = ps) (x y : Int) : hasF ps x y 0 (-1) = hasv (x, y) (ps.getD 0 (0, 0)) (ps.drop 1 ++ [ps.getD 0 (0, 0)]) := by
  cases ps with
  | nil => simp at h0
  | cons a t =>
    rw [hasF_eq]
    rw [List.map_cons, List.cons.injEq] at hs
    rw [hs.1, hs.2]; rfl
theorem lastp_snoc (a b : Int × Int) : ∀ (l : List (Int × Int)) , lastp a (l ++ [b]) = b := by
  intro l
  induction l generalizing a with
  | nil => rfl
  | cons c r ih => exact ih c
theorem on_start (a b c d : Int) : onb a b c d a b = true := by
  rw [onb_iff]; constructor
  · unfold crs; grind
  · unfold dot; simp
/-- twice the area, as the code adds it up: from the corner k on -/
def twF (ps : List (Int × Int)) (k : Nat) (s : Int) : Int :=
  if k + 1 < ps.length then twF ps (k + 1) (IntKind.wrap .i64 (s + crs (cA ps 0) (cB ps 0) (cA ps k) (cB ps k) (cA ps (k + 1)) (cB ps (k + 1)))) else s
termination_by ps.length - k
theorem twF_end {ps : List (Int × Int)} {k : Nat} {s : Int} (h : ¬ k + 1 < ps.length) : twF ps k s = s := by rw [twF, if_neg h]
theorem twF_step {ps : List (Int × Int)} {k : Nat} {s : Int} (h : k + 1 < ps.length) : twF ps (k + 1) (IntKind.wrap .i64 (s + crs (cA ps 0) (cB ps 0) (cA ps k) (cB ps k) (cA ps (k + 1)) (cB ps (k + 1)))) = twF ps k s := by
  conv => rhs; rw [twF, if_pos h]
theorem twF_congr {ps qs : List (Int × Int)} (hl : ps.length = qs.length) (h : ∀ k, k + 1 < ps.length → crs (cA ps 0) (cB ps 0) (cA ps k) (cB ps k) (cA ps (k + 1)) (cB ps (k + 1)) = crs (cA qs 0) (cB qs 0) (cA qs k) (cB qs k) (cA qs (k + 1)) (cB qs (k + 1))) :
    ∀ (m k : Nat) (s : Int), k + m = ps.length → twF ps k s = twF qs k s
  | 0, k, s, e => by rw [twF_end (by omega), twF_end (by omega)]
  | m + 1, k, s, e => by
    by_cases hk : k + 1 < ps.length
    · rw [← twF_step hk, ← twF_step (ps := qs) (by omega), h k hk]; exact twF_congr hl h m (k + 1) _ (by omega)
    · rw [twF_end hk, twF_end (by omega)]
/-- the rings that are drawn: a triangle, an L, an arrow, eight corners, a square -/
def rng (x y r s u v : Int) : List (Int × Int) :=
  if s = 1 then [(x + (0 - r), y + (0 - r)), (x + r, y + (u % (2 * r) - r)), (x + (v % (2 * r) - r), y + r)]
  else if s = 2 then [(x + (0 - r), y + (0 - r)), (x + r, y + (0 - r)), (x + r, y + (0 - v % r)), (x + (0 - u % r), y + (0 - v % r)), (x + (0 - u % r), y + r), (x + (0 - r), y + r)]
  else if s = 3 then [(x + (0 - r), y + (0 - r)), (x + 0, y + (-1 - u % (r - 1))), (x + r, y + (0 - r)), (x + 0, y + r)]
  else if s = 4 then [(x + (0 - r), y + (0 - (1 + u % (r - 1)))), (x + (0 - (1 + u % (r - 1))), y + (0 - r)), (x + (1 + u % (r - 1)), y + (0 - r)), (x + r, y + (0 - (1 + u % (r - 1)))), (x + r, y + (1 + u % (r - 1))), (x + (1 + u % (r - 1)), y + r), (x + (0 - (1 + u % (r - 1))), y + r), (x + (0 - r), y + (1 + u % (r - 1)))]
  else [(x + (0 - r), y + (0 - r)), (x + r, y + (0 - r)), (x + r, y + r), (x + (0 - r), y + r)]
theorem rng_few {x y r s u v : Int} (hx : -20 ≤ x ∧ x ≤ 20) (hy : -20 ≤ y ∧ y ≤ 20) (hr : 4 ≤ r ∧ r ≤ 19) : Few 40 (rng x y r s u v) := by
  have u2 := emod_bd u (n := 2 * r) (by omega)
  have v2 := emod_bd v (n := 2 * r) (by omega)
  have u1 := emod_bd u (n := r) (by omega)
  have v1 := emod_bd v (n := r) (by omega)
  have u3 := emod_bd u (n := r - 1) (by omega)
  refine few_of (by decide) ?_
  unfold rng
  generalize u % (2 * r) = a at *
  generalize v % (2 * r) = b at *
  generalize u % r = c at *
  generalize v % r = d at *
  generalize u % (r - 1) = e at *
  (repeat' split) <;> simp only [List.mem_cons, List.not_mem_nil, or_false, forall_eq_or_imp, forall_eq] <;> omega
theorem rng_len (x y r s u v : Int) : 3 ≤ (rng x y r s u v).length ∧ (rng x y r s u v).length ≤ 8 := by
  unfold rng
  (repeat' split) <;> simp
/-- the ring out of raw numbers -/
def rngL (xs : List Int) : List (Int × Int) := rng (xs.getD 0 0 % 40 - 20) (xs.getD 1 0 % 40 - 20) (4 + xs.getD 2 0 % 16) (xs.getD 3 0 % 5) (xs.getD 4 0) (xs.getD 5 0)
theorem rngL_few (xs : List Int) : Few 40 (rngL xs) := by
  have a := emod_bd (xs.getD 0 0) (n := 40) (by decide)
  have b := emod_bd (xs.getD 1 0) (n := 40) (by decide)
  have c := emod_bd (xs.getD 2 0) (n := 16) (by decide)
  exact rng_few (by omega) (by omega) (by omega)
theorem rngL_len (xs : List Int) : 3 ≤ (rngL xs).length ∧ (rngL xs).length ≤ 8 := rng_len _ _ _ _ _ _
end Go.Proofs.Ytomnkdlfmjdckaa.Am.Sp

set_option linter.unusedVariables false
set_option linter.unusedSimpArgs false
namespace Go.Proofs.Ytomnkdlfmjdckaa.Am.Sp
def has2 (l : List (Int × Int)) (px py : Int) : Bool := l.any (fun z => z.1 == px && (z.2 == py && true))
def addb (l : List (Int × Int)) (px py qx qy rx ry : Int) : Bool := onb qx qy rx ry px py && !(has2 l px py)
def addp (l : List (Int × Int)) (px py qx qy rx ry : Int) : List (Int × Int) := if addb l px py qx qy rx ry = true then l ++ [(px, py)] else l
/-- the ends of two segments that are on both -/
def shr (ax ay bx b_y cx cy dx dy : Int) : List (Int × Int) :=
  addp (addp (addp (addp [] ax ay cx cy dx dy) bx b_y cx cy dx dy) cx cy ax ay bx b_y) dx dy ax ay bx b_y
/-- two segments cross between their ends -/
def prp (ax ay bx b_y cx cy dx dy : Int) : Bool :=
  decide (cmp (crs ax ay bx b_y cx cy) 0 * cmp (crs ax ay bx b_y dx dy) 0 < 0) && decide (cmp (crs cx cy dx dy ax ay) 0 * cmp (crs cx cy dx dy bx b_y) 0 < 0)
def meetN (ax ay bx b_y cx cy dx dy : Int) : Int :=
  if prp ax ay bx b_y cx cy dx dy = true then 1 else mn 2 ((shr ax ay bx b_y cx cy dx dy).length : Int)
theorem addp_y {l px py qx qy rx ry} (h : addb l px py qx qy rx ry = true) : addp l px py qx qy rx ry = l ++ [(px, py)] := by unfold addp; rw [if_pos h]
theorem addp_n {l px py qx qy rx ry} (h : addb l px py qx qy rx ry = false) : addp l px py qx qy rx ry = l := by unfold addp; rw [if_neg (by rw [h]; decide)]
theorem has2_iff (l : List (Int × Int)) (px py : Int) : has2 l px py = true ↔ (px, py) ∈ l := by
  unfold has2
  rw [List.any_eq_true]
  constructor
  · rintro ⟨⟨x, y⟩, hm, h⟩
    simp only [Bool.and_true, Bool.and_eq_true, beq_iff_eq] at h
    obtain ⟨rfl, rfl⟩ := h; exact hm
  · intro h; exact ⟨_, h, by simp⟩
theorem mem_addp {l : List (Int × Int)} {px py qx qy rx ry : Int} {z : Int × Int} : z ∈ addp l px py qx qy rx ry ↔ z ∈ l ∨ (z = (px, py) ∧ onb qx qy rx ry px py = true) := by
  unfold addp addb
  cases h1 : onb qx qy rx ry px py <;> cases h2 : has2 l px py <;> simp
  rw [has2_iff] at h2
  intro h; rw [h]; exact h2
theorem nodup_addp {l : List (Int × Int)} {px py qx qy rx ry : Int} (h : l.Nodup) : (addp l px py qx qy rx ry).Nodup := by
  unfold addp
  split
  · next hb =>
    rw [List.nodup_append]
    refine ⟨h, by simp, ?_⟩
    intro a ha b hb' e
    unfold addb at hb
    simp only [List.mem_singleton] at hb'
    subst hb'; subst e
    rw [(has2_iff ..).2 ha] at hb; simp at hb
  · exact h
theorem mem_shr {ax ay bx b_y cx cy dx dy : Int} {z : Int × Int} : z ∈ shr ax ay bx b_y cx cy dx dy ↔
    (z = (ax, ay) ∧ onb cx cy dx dy ax ay = true) ∨ (z = (bx, b_y) ∧ onb cx cy dx dy bx b_y = true) ∨ (z = (cx, cy) ∧ onb ax ay bx b_y cx cy = true) ∨ (z = (dx, dy) ∧ onb ax ay bx b_y dx dy = true) := by
  unfold shr; simp only [mem_addp]; simp [or_assoc]
theorem nodup_shr (ax ay bx b_y cx cy dx dy : Int) : (shr ax ay bx b_y cx cy dx dy).Nodup := by
  unfold shr; exact nodup_addp (nodup_addp (nodup_addp (nodup_addp List.nodup_nil)))
theorem sgn_mul_le (x y : Int) : sgn x * sgn y ≤ 0 ↔ x * y ≤ 0 := by
  unfold sgn
  rcases Int.lt_trichotomy x 0 with h | h | h <;> rcases Int.lt_trichotomy y 0 with k | k | k
  · have := Int.mul_pos_of_neg_of_neg h k; simp [h, k]; omega
  · subst k; simp
  · have := Int.mul_neg_of_neg_of_pos h k; simp [h, k, show ¬ y < 0 by omega]; omega
  · subst h; simp
  · subst h; simp
  · subst h; simp
  · have := Int.mul_neg_of_pos_of_neg h k; simp [h, k, show ¬ x < 0 by omega]; omega
  · subst k; simp
  · have := Int.mul_pos h k; simp [h, k, show ¬ x < 0 by omega, show ¬ y < 0 by omega]; omega
theorem sgn_mul_lt (x y : Int) : sgn x * sgn y < 0 ↔ x * y < 0 := by
  unfold sgn
  rcases Int.lt_trichotomy x 0 with h | h | h <;> rcases Int.lt_trichotomy y 0 with k | k | k
  · have := Int.mul_pos_of_neg_of_neg h k; simp [h, k]; omega
  · subst k; simp
  · have := Int.mul_neg_of_neg_of_pos h k; simp [h, k, show ¬ y < 0 by omega]; omega
  · subst h; simp
  · subst h; simp
  · subst h; simp
  · have := Int.mul_neg_of_pos_of_neg h k; simp [h, k, show ¬ x < 0 by omega]; omega
  · subst k; simp
  · have := Int.mul_pos h k; simp [h, k, show ¬ x < 0 by omega, show ¬ y < 0 by omega]; omega
theorem cmp_mul_lt (x y : Int) : cmp x 0 * cmp y 0 < 0 ↔ x * y < 0 := by
  have e : ∀ z, cmp z 0 = sgn z := fun z => by unfold cmp sgn; (repeat' split) <;> omega
  rw [e, e, sgn_mul_lt]
theorem prp_iff (ax ay bx b_y cx cy dx dy : Int) : prp ax ay bx b_y cx cy dx dy = true ↔ crs ax ay bx b_y cx cy * crs ax ay bx b_y dx dy < 0 ∧ crs cx cy dx dy ax ay * crs cx cy dx dy bx b_y < 0 := by
  unfold prp; rw [Bool.and_eq_true, decide_eq_true_eq, decide_eq_true_eq, cmp_mul_lt, cmp_mul_lt]
/-- the document's count -/
def crossing (ax ay bx b_y cx cy dx dy : Int) : Bool :=
  decide (sgn (crs ax ay bx b_y cx cy) * sgn (crs ax ay bx b_y dx dy) ≤ 0) && decide (sgn (crs cx cy dx dy ax ay) * sgn (crs cx cy dx dy bx b_y) ≤ 0)
end Go.Proofs.Ytomnkdlfmjdckaa.Am.Sp

set_option linter.unusedVariables false
set_option linter.unusedSimpArgs false
namespace Go.Proofs.Ytomnkdlfmjdckaa.Am.Sp
open Go
/-- positive if the point (in halves) is above the line -/
def sideD (ax ay bx b_y x y : Int) : Int := (bx - ax) * (y - 2 * ay) - (b_y - ay) * (x - 2 * ax)
def upD0 (ax ay bx b_y x y : Int) : Bool := decide (2 * ax ≤ x) && (decide (x < 2 * bx) && decide (sideD ax ay bx b_y x y < 0))
def upD (ax ay bx b_y x y : Int) : Bool := if ax > bx then upD0 bx b_y ax ay x y else upD0 ax ay bx b_y x y
variable {ax ay bx b_y x y : Int}
theorem wr_add (a b : Int) : IntKind.wrap .i64 (IntKind.wrap .i64 a + b) = IntKind.wrap .i64 (a + b) := by
  rw [IntKind.wrap_i64, IntKind.wrap_i64, IntKind.wrap_i64]; omega
def trp (ps : List (Int × Int)) (i j : Nat) : Int := (cA ps i - cA ps j) * (cB ps i + cB ps j)
def dblF (ps : List (Int × Int)) (i : Nat) (s : Int) : Int := if i < ps.length then dblF ps (i + 1) (IntKind.wrap .i64 (s + trp ps i ((i + 1) % ps.length))) else s
termination_by ps.length - i
theorem dblF_end {ps : List (Int × Int)} {i : Nat} {s : Int} (h : ¬ i < ps.length) : dblF ps i s = s := by rw [dblF, if_neg h]
def dblE (ps : List (Int × Int)) (i : Nat) : Int := if i < ps.length then trp ps i ((i + 1) % ps.length) + dblE ps (i + 1) else 0
termination_by ps.length - i
def twE (ps : List (Int × Int)) (k : Nat) : Int := if k + 1 < ps.length then crs (cA ps 0) (cB ps 0) (cA ps k) (cB ps k) (cA ps (k + 1)) (cB ps (k + 1)) + twE ps (k + 1) else 0
termination_by ps.length - k
theorem dblF_E (ps : List (Int × Int)) : ∀ (m i : Nat) (s : Int), i + m = ps.length → dblF ps i (IntKind.wrap .i64 s) = IntKind.wrap .i64 (s + dblE ps i)
  | 0, i, s, h => by rw [dblF_end (by omega), dblE, if_neg (by omega), Int.add_zero]
  | m + 1, i, s, h => by
    rw [dblF, if_pos (by omega), wr_add, dblF_E ps m (i + 1) _ (by omega)]
    conv => rhs; rw [dblE, if_pos (by omega)]
    rw [Int.add_assoc]
theorem twF_E (ps : List (Int × Int)) : ∀ (m k : Nat) (s : Int), ps.length ≤ k + m → twF ps k (IntKind.wrap .i64 s) = IntKind.wrap .i64 (s + twE ps k)
  | 0, k, s, h => by rw [twF_end (by omega), twE, if_neg (by omega), Int.add_zero]
  | m + 1, k, s, h => by
    by_cases hk : k + 1 < ps.length
    · rw [twF, if_pos hk, wr_add, twF_E ps m (k + 1) _ (by omega)]
      conv => rhs; rw [twE, if_pos hk]
      rw [Int.add_assoc]
    · rw [twF_end hk, twE, if_neg hk, Int.add_zero]
theorem dbl_tw (ps : List (Int × Int)) : ∀ (m k : Nat), k + m + 1 = ps.length → dblE ps k = (if k = 0 then 0 else trp ps k 0) + twE ps (if k = 0 then 1 else k) - (if k = 0 then 0 else 0) := by
  have main : ∀ (m k : Nat), 1 ≤ k → k + m + 1 = ps.length → dblE ps k = trp ps k 0 + twE ps k := by
    intro m
    induction m with
    | zero =>
      intro k h1 h
      rw [dblE, if_pos (by omega), dblE, if_neg (by omega), twE, if_neg (by omega), show k + 1 = ps.length by omega, Nat.mod_self]
    | succ m ih =>
      intro k h1 h
      rw [dblE, if_pos (by omega), ih (k + 1) (by omega) (by omega), Nat.mod_eq_of_lt (by omega)]
      conv => rhs; rw [twE, if_pos (by omega)]
      unfold trp crs; grind
  intro m k h
  by_cases hk : k = 0
  · subst hk
    simp only [if_true]
    cases m with
    | zero => rw [dblE, if_pos (by omega), dblE, if_neg (by omega), twE, if_neg (by omega), show 0 + 1 = ps.length by omega, Nat.mod_self]; unfold trp; simp
    | succ m =>
      rw [dblE, if_pos (by omega), main m (0 + 1) (by omega) (by omega), Nat.mod_eq_of_lt (by omega)]
      unfold trp; grind
  · rw [if_neg hk, if_neg hk, if_neg hk, main m k (by omega) h]; omega
theorem dblF_twF (ps : List (Int × Int)) : dblF ps 0 0 = twF ps 1 0 := by
  have z : IntKind.wrap .i64 0 = 0 := by rw [IntKind.wrap_i64]; omega
  have a := dblF_E ps ps.length 0 0 (by omega)
  have b := twF_E ps ps.length 1 0 (by omega)
  rw [z] at a b
  rw [a, b]
  cases h : ps.length with
  | zero => rw [dblE, if_neg (by omega), twE, if_neg (by omega)]
  | succ n =>
    have := dbl_tw ps n 0 (by omega)
    simp only [if_true] at this
    rw [this]; congr 1; omega
end Go.Proofs.Ytomnkdlfmjdckaa.Am.Sp
set_option linter.unusedVariables false
set_option linter.unusedSimpArgs false
namespace Go.Proofs.Ytomnkdlfmjdckaa.Am.Sp
open Go
abbrev gx (ps : List (Int × Int)) (i : Nat) : Int := (ps.getD i (0, 0)).1
abbrev gy (ps : List (Int × Int)) (i : Nat) : Int := (ps.getD i (0, 0)).2
/-- the first place whose point is such a one -/
def ixF (f : Int × Int → Bool) (ps : List (Int × Int)) (i : Nat) : Int := if i < ps.length then (if f (ps.getD i (0, 0)) = true then ((i : Nat) : Int) else ixF f ps (i + 1)) else -1
termination_by ps.length - i
theorem ixF_end {f : Int × Int → Bool} {ps : List (Int × Int)} {i : Nat} (h : ¬ i < ps.length) : ixF f ps i = -1 := by rw [ixF, if_neg h]
theorem ixF_yes {f : Int × Int → Bool} {ps : List (Int × Int)} {i : Nat} (h : i < ps.length) (hf : f (ps.getD i (0, 0)) = true) : ixF f ps i = ((i : Nat) : Int) := by rw [ixF, if_pos h, if_pos hf]
theorem ixF_no {f : Int × Int → Bool} {ps : List (Int × Int)} {i : Nat} (h : i < ps.length) (hf : f (ps.getD i (0, 0)) = false) : ixF f ps (i + 1) = ixF f ps i := by
  conv => rhs; rw [ixF, if_pos h, if_neg (by rw [hf]; decide)]
theorem ixF_bd (f : Int × Int → Bool) (ps : List (Int × Int)) : ∀ (m i : Nat), i + m = ps.length → (ixF f ps i = -1 ∧ (ps.drop i).any f = false) ∨ (∃ j, i ≤ j ∧ j < ps.length ∧ ixF f ps i = ((j : Nat) : Int) ∧ f (ps.getD j (0, 0)) = true ∧ (ps.drop i).any f = true ∧ ∀ q, i ≤ q → q < j → f (ps.getD q (0, 0)) = false)
  | 0, i, h => .inl ⟨ixF_end (by omega), by rw [List.drop_of_length_le (by omega)]; rfl⟩
  | m + 1, i, h => by
    have hl : i < ps.length := by omega
    have hd : ps.drop i = ps.getD i (0, 0) :: ps.drop (i + 1) := by rw [List.drop_eq_getElem_cons hl, getD_lt hl]
    rcases Bool.eq_false_or_eq_true (f (ps.getD i (0, 0))) with hf | hf
    · exact .inr ⟨i, Nat.le_refl _, hl, ixF_yes hl hf, hf, by rw [hd, List.any_cons, hf]; rfl, fun q h1 h2 => by omega⟩
    · rcases ixF_bd f ps m (i + 1) (by omega) with ⟨h1, h2⟩ | ⟨j, h1, h2, h3, h4, h5, h6⟩
      · exact .inl ⟨by rw [← ixF_no hl hf]; exact h1, by rw [hd, List.any_cons, hf, h2]; rfl⟩
      · refine .inr ⟨j, by omega, h2, by rw [← ixF_no hl hf]; exact h3, h4, by rw [hd, List.any_cons, h5, Bool.or_true], fun q q1 q2 => ?_⟩
        rcases Nat.eq_or_lt_of_le q1 with rfl | q1
        · exact hf
        · exact h6 q q1 q2
theorem ixF_any (f : Int × Int → Bool) (ps : List (Int × Int)) : decide (ixF f ps 0 ≥ 0) = ps.any f := by
  rcases ixF_bd f ps ps.length 0 (by omega) with ⟨h1, h2⟩ | ⟨j, _, _, h3, _, h5, _⟩
  · rw [h1]; rw [List.drop_zero] at h2; rw [h2]; rfl
  · rw [h3]; rw [List.drop_zero] at h5; rw [h5]; exact decide_eq_true (by omega)
def nok (q : Int × Int) : Bool := !(okb q.1 q.2)
def eqP (ps : List (Int × Int)) (k k2 : Nat) : Bool := (gx ps k == gx ps k2) && ((gy ps k == gy ps k2) && true)
def mnE (ps : List (Int × Int)) (k k2 i i2 : Nat) : Int := meetN (cA ps k) (cB ps k) (cA ps k2) (cB ps k2) (cA ps i) (cB ps i) (cA ps i2) (cB ps i2)
/-- two edges, k ahead of i, have only those corners in common that they must have -/
def apF (ps : List (Int × Int)) (k k2 i i2 : Nat) : Bool :=
  if eqP ps k k2 = true then false else if eqP ps i i2 = true then false else if ((k : Nat) : Int) + 1 == ((i : Nat) : Int) then mnE ps k k2 i i2 == 1 else if ((i2 : Nat) : Int) == ((k : Nat) : Int) then mnE ps k k2 i i2 == 1 else mnE ps k k2 i i2 == 0
section
variable {ps : List (Int × Int)} {k k2 i i2 : Nat}
theorem apF_1 (h : eqP ps k k2 = true) : apF ps k k2 i i2 = false := if_pos h
theorem apF_2 (h1 : eqP ps k k2 = false) (h : eqP ps i i2 = true) : apF ps k k2 i i2 = false := by unfold apF; rw [if_neg (by rw [h1]; decide), if_pos h]
theorem apF_3 (h1 : eqP ps k k2 = false) (h2 : eqP ps i i2 = false) (h : (((k : Nat) : Int) + 1 == ((i : Nat) : Int)) = true) : apF ps k k2 i i2 = (mnE ps k k2 i i2 == 1) := by unfold apF; rw [if_neg (by rw [h1]; decide), if_neg (by rw [h2]; decide), if_pos h]
theorem apF_4 (h1 : eqP ps k k2 = false) (h2 : eqP ps i i2 = false) (h3 : (((k : Nat) : Int) + 1 == ((i : Nat) : Int)) = false) (h : (((i2 : Nat) : Int) == ((k : Nat) : Int)) = true) : apF ps k k2 i i2 = (mnE ps k k2 i i2 == 1) := by unfold apF; rw [if_neg (by rw [h1]; decide), if_neg (by rw [h2]; decide), if_neg (by rw [h3]; decide), if_pos h]
theorem apF_5 (h1 : eqP ps k k2 = false) (h2 : eqP ps i i2 = false) (h3 : (((k : Nat) : Int) + 1 == ((i : Nat) : Int)) = false) (h : (((i2 : Nat) : Int) == ((k : Nat) : Int)) = false) : apF ps k k2 i i2 = (mnE ps k k2 i i2 == 0) := by unfold apF; rw [if_neg (by rw [h1]; decide), if_neg (by rw [h2]; decide), if_neg (by rw [h3]; decide), if_neg (by rw [h]; decide)]
end
def apE (ps : List (Int × Int)) (k i : Nat) : Bool := apF ps k ((k + 1) % ps.length) i ((i + 1) % ps.length)
def apRow (ps : List (Int × Int)) (i k : Nat) : Bool := (List.range k).all fun q => apE ps q i
def allap (ps : List (Int × Int)) (i : Nat) : Bool := (List.range i).all fun q => apRow ps q q
theorem all_snoc {f : Nat → Bool} {k : Nat} : (List.range (k + 1)).all f = ((List.range k).all f && f k) := by rw [List.range_succ, List.all_append]; simp
theorem all_at {f : Nat → Bool} {n k : Nat} (h : (List.range n).all f = true) (hk : k < n) : f k = true := List.all_eq_true.1 h k (List.mem_range.2 hk)
theorem all_off {f : Nat → Bool} {n k : Nat} (hk : k < n) (h : f k = false) : (List.range n).all f = false := by
  rcases Bool.eq_false_or_eq_true ((List.range n).all f) with q | q
  · rw [all_at q hk] at h; cases h
  · exact q
theorem apRow_next {ps : List (Int × Int)} {i k k2 i2 : Nat} (h : apRow ps i k = true) (hk : (k + 1) % ps.length = k2) (hi : (i + 1) % ps.length = i2) (q : (!(apF ps k k2 i i2)) = false) : apRow ps i (k + 1) = true := by
  unfold apRow at *; rw [all_snoc, h]; subst hk hi; unfold apE; simpa using q
theorem allap_next {ps : List (Int × Int)} {i k : Nat} (h : allap ps i = true) (hk : k = i) (q : apRow ps i k = true) : allap ps (i + 1) = true := by
  subst hk; unfold allap at *; rw [all_snoc, h]; simpa using q
theorem allap_no {ps : List (Int × Int)} {i k k2 i2 : Nat} (hi : i < ps.length) (hk : k < i) (h2 : (k + 1) % ps.length = k2) (h3 : (i + 1) % ps.length = i2) (q : (!(apF ps k k2 i i2)) = true) : allap ps ps.length = false :=
  all_off hi (all_off hk (by subst h2 h3; unfold apE; simpa using q))
def chkF (ps : List (Int × Int)) : Int := if decide (((ps.length : Nat) : Int) > 200) = true then 2 else if decide (((ps.length : Nat) : Int) < 3) = true then 3 else if ps.any nok = true then 1 else if allap ps ps.length = true then 0 else 10
section
variable {ps : List (Int × Int)}
theorem chk_2 (h : decide (((ps.length : Nat) : Int) > 200) = true) : chkF ps = 2 := if_pos h
theorem chk_3 (h1 : decide (((ps.length : Nat) : Int) > 200) = false) (h : decide (((ps.length : Nat) : Int) < 3) = true) : chkF ps = 3 := by unfold chkF; rw [if_neg (by rw [h1]; decide), if_pos h]
theorem chk_1 (h1 : decide (((ps.length : Nat) : Int) > 200) = false) (h2 : decide (((ps.length : Nat) : Int) < 3) = false) (h : ps.any nok = true) : chkF ps = 1 := by unfold chkF; rw [if_neg (by rw [h1]; decide), if_neg (by rw [h2]; decide), if_pos h]
theorem chk_10 (h1 : decide (((ps.length : Nat) : Int) > 200) = false) (h2 : decide (((ps.length : Nat) : Int) < 3) = false) (h3 : ps.any nok = false) (h : allap ps ps.length = false) : chkF ps = 10 := by unfold chkF; rw [if_neg (by rw [h1]; decide), if_neg (by rw [h2]; decide), if_neg (by rw [h3]; decide), if_neg (by rw [h]; decide)]
theorem chk_0 {i : Nat} (h1 : decide (((ps.length : Nat) : Int) > 200) = false) (h2 : decide (((ps.length : Nat) : Int) < 3) = false) (h3 : ps.any nok = false) (hi : i = ps.length) (h : allap ps i = true) : chkF ps = 0 := by subst hi; unfold chkF; rw [if_neg (by rw [h1]; decide), if_neg (by rw [h2]; decide), if_neg (by rw [h3]; decide), if_pos h]
end
def wantN (n i k : Nat) : Int := if k = i + 1 ∨ (i = 0 ∧ k + 1 = n) then 1 else 0
def rgRow (ps : List (Int × Int)) (i k : Nat) : Bool := (List.range k).all fun q => bif Nat.ble (i + 1) q then mnE ps i ((i + 1) % ps.length) q ((q + 1) % ps.length) == wantN ps.length i q else true
def allrg (ps : List (Int × Int)) (i : Nat) : Bool := (List.range i).all fun q => !(eqP ps q ((q + 1) % ps.length)) && rgRow ps q ps.length
theorem rg_ap {ps : List (Int × Int)} (hn : 3 ≤ ps.length) : allrg ps ps.length = allap ps ps.length := by
  have ap : ∀ k i, k < i → i < ps.length → (apE ps k i = true ↔ eqP ps k ((k + 1) % ps.length) = false ∧ eqP ps i ((i + 1) % ps.length) = false ∧ mnE ps k ((k + 1) % ps.length) i ((i + 1) % ps.length) = wantN ps.length k i) := by
    intro k i hk hi
    have hi2 : (i + 1) % ps.length = if i + 1 = ps.length then 0 else i + 1 := by
      split
      · rename_i h; rw [h, Nat.mod_self]
      · exact Nat.mod_eq_of_lt (by omega)
    unfold apE apF wantN
    generalize mnE ps k ((k + 1) % ps.length) i ((i + 1) % ps.length) = M
    generalize eqP ps k ((k + 1) % ps.length) = E1
    generalize eqP ps i ((i + 1) % ps.length) = E2
    rw [hi2]
    cases E1 <;> cases E2 <;> simp
    by_cases h1 : k + 1 = i
    · rw [if_pos (by omega), if_pos (.inl h1.symm)]
    · rw [if_neg (by omega)]
      by_cases h2 : k = 0 ∧ i + 1 = ps.length
      · rw [if_pos (by rw [if_pos h2.2, h2.1]), if_pos (.inr h2)]
      · rw [if_neg (by split <;> omega), if_neg (by omega)]
  rw [Bool.eq_iff_iff]
  unfold allrg allap apRow rgRow
  simp only [List.all_eq_true, List.mem_range, Bool.and_eq_true, Bool.not_eq_true']
  constructor
  · intro h i hi k hk
    refine (ap k i hk hi).2 ⟨(h k (by omega)).1, (h i hi).1, ?_⟩
    have := (h k (by omega)).2 i hi
    rw [Nat.ble_eq_true_of_le (show k + 1 ≤ i by omega)] at this
    simpa using this
  · intro h i hi
    have he : ∀ a b, a < b → b < ps.length → eqP ps a ((a + 1) % ps.length) = false ∧ eqP ps b ((b + 1) % ps.length) = false := fun a b hab hb => ⟨((ap a b hab hb).1 (h b hb a hab)).1, ((ap a b hab hb).1 (h b hb a hab)).2.1⟩
    refine ⟨?_, fun k hk => ?_⟩
    · rcases Nat.eq_zero_or_pos i with rfl | hp
      · exact (he 0 1 (by omega) (by omega)).1
      · exact (he 0 i hp hi).2
    · rcases Bool.eq_false_or_eq_true (Nat.ble (i + 1) k) with hb | hb
      · rw [hb]
        have hik : i < k := Nat.le_of_ble_eq_true hb
        have := ((ap i k hik hk).1 (h k hk i hik)).2.2
        simpa using this
      · rw [hb]; rfl
end Go.Proofs.Ytomnkdlfmjdckaa.Am.Sp
set_option linter.unusedVariables false
set_option linter.unusedSimpArgs false
namespace Go.Proofs.Ytomnkdlfmjdckaa.Am.Sp
open Go
theorem ext_getD {a b : List (Int × Int)} (hl : a.length = b.length) (h : ∀ i, i < a.length → a.getD i (0, 0) = b.getD i (0, 0)) : a = b := by
  refine List.ext_getElem hl fun i h1 h2 => ?_
  have := h i h1
  rwa [getD_lt h1, getD_lt h2] at this
/-- the first i pairs from both ends are exchanged -/
def rvl (ps : List (Int × Int)) (i : Nat) : List (Int × Int) := (List.range ps.length).map fun q => if q < i ∨ ps.length ≤ q + i then ps.getD (ps.length - 1 - q) (0, 0) else ps.getD q (0, 0)
theorem rvl_len (ps : List (Int × Int)) (i : Nat) : (rvl ps i).length = ps.length := by simp [rvl]
theorem rvl_at {ps : List (Int × Int)} {i q : Nat} (h : q < ps.length) : (rvl ps i).getD q (0, 0) = if q < i ∨ ps.length ≤ q + i then ps.getD (ps.length - 1 - q) (0, 0) else ps.getD q (0, 0) := by
  rw [getD_lt (by rw [rvl_len]; exact h)]; simp [rvl]
theorem rvl_0 (ps : List (Int × Int)) : rvl ps 0 = ps := by
  refine ext_getD (rvl_len ps 0) fun i hi => ?_
  rw [rvl_len] at hi
  rw [rvl_at hi, if_neg (by omega)]
theorem set_at {l : List (Int × Int)} {i j : Nat} {v : Int × Int} (h : j < l.length) : (l.set i v).getD j (0, 0) = if i = j then v else l.getD j (0, 0) := by
  rw [getD_lt (by simpa using h), getD_lt h, List.getElem_set]
theorem rvl_next {ps : List (Int × Int)} {i j : Nat} (hj : i + j + 1 = ps.length) (hl : i < j) : ((rvl ps i).set i ((rvl ps i).getD j (0, 0))).set j ((rvl ps i).getD i (0, 0)) = rvl ps (i + 1) := by
  refine ext_getD (by simp [rvl_len]) fun q hq => ?_
  have hq' : q < ps.length := by simpa [rvl_len] using hq
  rw [set_at (by simpa [rvl_len] using hq'), set_at (by rw [rvl_len]; exact hq'), rvl_at hq', rvl_at (by omega), rvl_at (by omega), rvl_at hq']
  by_cases h1 : j = q
  · subst h1
    rw [if_pos rfl, if_neg (by omega), if_pos (by omega)]
    congr 1; omega
  · rw [if_neg h1]
    by_cases h2 : i = q
    · subst h2
      rw [if_pos rfl, if_neg (by omega), if_pos (by omega)]
      congr 1; omega
    · rw [if_neg h2]
      by_cases h3 : q < i ∨ ps.length ≤ q + i
      · rw [if_pos h3, if_pos (by omega)]
      · rw [if_neg h3, if_neg (by omega)]
theorem rev_at {ps : List (Int × Int)} {q : Nat} (h : q < ps.length) : ps.reverse.getD q (0, 0) = ps.getD (ps.length - 1 - q) (0, 0) := by
  rw [getD_lt (by simpa using h), List.getElem_reverse, getD_lt (by omega)]
theorem rvl_end {ps : List (Int × Int)} {i j : Nat} (hj : i + j + 1 = ps.length) (hl : ¬ i < j) : rvl ps i = ps.reverse := by
  refine ext_getD (by simp [rvl_len]) fun q hq => ?_
  have hq' : q < ps.length := by simpa [rvl_len] using hq
  rw [rvl_at hq', rev_at hq']
  split
  · rfl
  · congr 1; omega
/-- a point ahead of another one -/
def befP (a b : Int × Int) : Bool := decide (pcmp a.1 a.2 b.1 b.2 < 0)
theorem befP_iff (a b : Int × Int) : befP a b = true ↔ a.1 < b.1 ∨ (a.1 = b.1 ∧ a.2 < b.2) := by
  unfold befP; rw [pcmp_form, decide_eq_true_iff]; (repeat' split) <;> omega
/-- the least of the first i points -/
def mnP (ps : List (Int × Int)) : Nat → Int × Int
  | 0 => ps.getD 0 (0, 0)
  | i + 1 => if befP (ps.getD (i + 1) (0, 0)) (mnP ps i) = true then ps.getD (i + 1) (0, 0) else mnP ps i
theorem mnP_y {ps : List (Int × Int)} {i : Nat} {a b : Int} (ha : a = (mnP ps i).1) (hb : b = (mnP ps i).2) (h : decide (pcmp (ps.getD (i + 1) (0, 0)).1 (ps.getD (i + 1) (0, 0)).2 a b < 0) = true) : ps.getD (i + 1) (0, 0) = mnP ps (i + 1) := by
  subst ha hb; exact (if_pos h).symm
theorem mnP_n {ps : List (Int × Int)} {i : Nat} {a b : Int} (ha : a = (mnP ps i).1) (hb : b = (mnP ps i).2) (h : decide (pcmp (ps.getD (i + 1) (0, 0)).1 (ps.getD (i + 1) (0, 0)).2 a b < 0) = false) : (a, b) = mnP ps (i + 1) := by
  subst ha hb; exact (if_neg (by unfold befP; rw [h]; decide)).symm
theorem mnP_spec (ps : List (Int × Int)) : ∀ i, (∃ j, j ≤ i ∧ mnP ps i = ps.getD j (0, 0)) ∧ ∀ j, j ≤ i → befP (ps.getD j (0, 0)) (mnP ps i) = false
  | 0 => ⟨⟨0, Nat.le_refl 0, rfl⟩, fun j hj => by
      rw [show j = 0 by omega]
      rcases Bool.eq_false_or_eq_true (befP (ps.getD 0 (0, 0)) (mnP ps 0)) with h | h
      · have := (befP_iff _ _).1 h; simp only [mnP] at this; omega
      · exact h⟩
  | i + 1 => by
    obtain ⟨⟨j, hj, e⟩, h⟩ := mnP_spec ps i
    have hn : ∀ a b : Int × Int, befP a b = false ↔ ¬ (a.1 < b.1 ∨ (a.1 = b.1 ∧ a.2 < b.2)) := fun a b => by rw [← befP_iff]; simp
    rcases Bool.eq_false_or_eq_true (befP (ps.getD (i + 1) (0, 0)) (mnP ps i)) with q | q
    · have em : mnP ps (i + 1) = ps.getD (i + 1) (0, 0) := if_pos q
      rw [em]
      refine ⟨⟨i + 1, Nat.le_refl _, rfl⟩, fun k hk => ?_⟩
      rw [hn]
      rcases Nat.eq_or_lt_of_le hk with rfl | hk
      · omega
      · have a := (hn _ _).1 (h k (by omega)); have b := (befP_iff _ _).1 q
        omega
    · have em : mnP ps (i + 1) = mnP ps i := if_neg (by rw [q]; decide)
      rw [em]
      refine ⟨⟨j, by omega, e⟩, fun k hk => ?_⟩
      rcases Nat.eq_or_lt_of_le hk with rfl | hk
      · exact q
      · exact h k (by omega)
def eqTo (a q : Int × Int) : Bool := (a.1 == q.1) && ((a.2 == q.2) && true)
theorem eqTo_iff (a q : Int × Int) : eqTo a q = true ↔ a = q := by
  unfold eqTo; simp [Prod.ext_iff]
/-- a ring written from the place a on -/
def rotL (ps : List (Int × Int)) (a : Nat) : List (Int × Int) := ps.drop a ++ ps.take a
theorem rotL_len {ps : List (Int × Int)} {a : Nat} (h : a ≤ ps.length) : (rotL ps a).length = ps.length := by simp [rotL]; omega
theorem rotL_at {ps : List (Int × Int)} {a k : Nat} (h : a < ps.length) (hk : k < ps.length) : (rotL ps a).getD k (0, 0) = ps.getD ((a + k) % ps.length) (0, 0) := by
  rw [getD_lt (by rw [rotL_len (by omega)]; exact hk)]
  unfold rotL
  by_cases c : k < ps.length - a
  · rw [List.getElem_append_left (by simpa using c), List.getElem_drop, Nat.mod_eq_of_lt (by omega), getD_lt (by omega)]
  · rw [List.getElem_append_right (by simp; omega), List.getElem_take, getD_lt (Nat.mod_lt _ (by omega))]
    congr 1
    rw [List.length_drop, show a + k = (k - (ps.length - a)) + ps.length by omega, Nat.add_mod_right, Nat.mod_eq_of_lt (by omega)]
/-- all corners are different -/
def Diff (ps : List (Int × Int)) : Prop := ∀ i j, i < j → j < ps.length → ps.getD i (0, 0) ≠ ps.getD j (0, 0)
theorem diff_eq {ps : List (Int × Int)} (h : Diff ps) {i j : Nat} (hi : i < ps.length) (hj : j < ps.length) (e : ps.getD i (0, 0) = ps.getD j (0, 0)) : i = j := by
  rcases Nat.lt_trichotomy i j with q | q | q
  · exact absurd e (h i j q hj)
  · exact q
  · exact absurd e.symm (h j i q hi)
theorem meet_end {ax ay bx b_y cx cy dx dy : Int} (h : onb cx cy dx dy ax ay = true) : meetN ax ay bx b_y cx cy dx dy > 0 := by
  unfold meetN
  split
  · decide
  · have hm : (ax, ay) ∈ shr ax ay bx b_y cx cy dx dy := mem_shr.2 (.inl ⟨rfl, h⟩)
    have := List.length_pos_of_mem hm
    unfold mn; split <;> omega
theorem chk_diff {ps : List (Int × Int)} (h : chkF ps = 0) : (3 ≤ ps.length ∧ ps.length ≤ 200) ∧ Diff ps := by
  unfold chkF at h
  split at h
  · cases h
  · rename_i c1
    split at h
    · cases h
    · rename_i c2
      split at h
      · cases h
      · split at h
        · rename_i c4
          have hn : 3 ≤ ps.length ∧ ps.length ≤ 200 := by simp only [decide_eq_true_eq] at c1 c2; omega
          refine ⟨hn, fun a b hab hb e => ?_⟩
          have ap := all_at (all_at c4 hb) hab
          have hE : ∀ k k2, ps.getD k (0, 0) = ps.getD k2 (0, 0) → eqP ps k k2 = true := fun k k2 e => by unfold eqP gx gy; rw [e]; simp
          have bp : meetN (cA ps a) (cB ps a) (cA ps ((a + 1) % ps.length)) (cB ps ((a + 1) % ps.length)) (cA ps b) (cB ps b) (cA ps ((b + 1) % ps.length)) (cB ps ((b + 1) % ps.length)) > 0 := by
            refine meet_end ?_
            have e1 : cA ps a = cA ps b := by unfold cA; rw [e]
            have e2 : cB ps a = cB ps b := by unfold cB; rw [e]
            rw [e1, e2]; exact on_start _ _ _ _
          have ap' : apF ps a ((a + 1) % ps.length) b ((b + 1) % ps.length) = true := ap
          by_cases h1 : a + 1 = b
          · rw [apF_1 (hE _ _ (by rw [Nat.mod_eq_of_lt (show a + 1 < ps.length by omega), h1]; exact e))] at ap'; cases ap'
          · by_cases h2 : a = 0 ∧ b + 1 = ps.length
            · have : eqP ps b ((b + 1) % ps.length) = true := hE _ _ (by rw [h2.2, Nat.mod_self, ← h2.1]; exact e.symm)
              unfold apF at ap'; rw [this] at ap'; simp at ap'
            · have hb2 : (b + 1) % ps.length = if b + 1 = ps.length then 0 else b + 1 := by
                split
                · rename_i h; rw [h, Nat.mod_self]
                · exact Nat.mod_eq_of_lt (by omega)
              have bp' : mnE ps a ((a + 1) % ps.length) b ((b + 1) % ps.length) > 0 := bp
              unfold apF at ap'
              generalize mnE ps a ((a + 1) % ps.length) b ((b + 1) % ps.length) = M at *
              have t1 : (((a : Nat) : Int) + 1 == ((b : Nat) : Int)) = false := by rw [beq_eq_false_iff_ne]; omega
              have t2 : ((((b + 1) % ps.length : Nat) : Int) == ((a : Nat) : Int)) = false := by rw [hb2, beq_eq_false_iff_ne]; split <;> omega
              rw [t1, t2] at ap'
              generalize eqP ps a ((a + 1) % ps.length) = E1 at *
              generalize eqP ps b ((b + 1) % ps.length) = E2 at *
              cases E1 <;> cases E2 <;> simp at ap'
              omega
        · cases h
/-- the place of the least corner -/
theorem least_ex {ps : List (Int × Int)} (hn : 1 ≤ ps.length) : ∃ m, m < ps.length ∧ mnP ps (ps.length - 1) = ps.getD m (0, 0) ∧ ∀ j, j < ps.length → befP (ps.getD j (0, 0)) (ps.getD m (0, 0)) = false := by
  obtain ⟨⟨j, hj, e⟩, h⟩ := mnP_spec ps (ps.length - 1)
  exact ⟨j, by omega, e, fun k hk => by rw [← e]; exact h k (by omega)⟩
theorem bef_tot {a b : Int × Int} (h1 : befP a b = false) (h2 : befP b a = false) : a = b := by
  have e1 : ¬ (a.1 < b.1 ∨ (a.1 = b.1 ∧ a.2 < b.2)) := by rw [← befP_iff, h1]; decide
  have e2 : ¬ (b.1 < a.1 ∨ (b.1 = a.1 ∧ b.2 < a.2)) := by rw [← befP_iff, h2]; decide
  exact Prod.ext (by omega) (by omega)
theorem ix_eq {ps : List (Int × Int)} (hd : Diff ps) {m : Nat} (hm : m < ps.length) : ixF (eqTo (ps.getD m (0, 0))) ps 0 = ((m : Nat) : Int) := by
  rcases ixF_bd (eqTo (ps.getD m (0, 0))) ps ps.length 0 (by omega) with ⟨_, h2⟩ | ⟨j, _, h2, h3, h4, _⟩
  · rw [List.drop_zero, List.any_eq_false] at h2
    have := h2 (ps.getD m (0, 0)) (by rw [getD_lt hm]; exact List.getElem_mem hm)
    rw [(eqTo_iff _ _).2 rfl] at this; simp at this
  · rw [h3, diff_eq hd hm h2 ((eqTo_iff _ _).1 h4)]
theorem diff_rev {ps : List (Int × Int)} (h : Diff ps) : Diff ps.reverse := by
  intro i j hij hj e
  rw [List.length_reverse] at hj
  rw [rev_at (by omega), rev_at hj] at e
  exact h (ps.length - 1 - j) (ps.length - 1 - i) (by omega) (by omega) e.symm
/-- what Norm answers of different corners -/
def nrmL (ps : List (Int × Int)) (m : Nat) : List (Int × Int) := if twF ps 1 0 < 0 then rotL ps.reverse (ps.length - 1 - m) else rotL ps m
section
variable {ps : List (Int × Int)} {m q i : Nat}
theorem min_pt (hm : m < ps.length) (hl : ∀ j, j < ps.length → befP (ps.getD j (0, 0)) (ps.getD m (0, 0)) = false) : mnP ps (ps.length - 1) = ps.getD m (0, 0) := by
  obtain ⟨j, hj, e, h⟩ := least_ex (ps := ps) (by omega)
  rw [e]
  exact bef_tot (hl j hj) (h m hm)
theorem ix_plain (hm : m < ps.length) (hd : Diff ps) (hl : ∀ j, j < ps.length → befP (ps.getD j (0, 0)) (ps.getD m (0, 0)) = false) : ixF (eqTo ((mnP ps (ps.length - 1)).1, (mnP ps (ps.length - 1)).2)) ps 0 = ((m : Nat) : Int) := by
  rw [min_pt hm hl]; exact ix_eq hd hm
theorem ix_rev (hm : m < ps.length) (hd : Diff ps) (hl : ∀ j, j < ps.length → befP (ps.getD j (0, 0)) (ps.getD m (0, 0)) = false) (hq : ps.length - 1 - m = q) : ixF (eqTo ((mnP ps.reverse (ps.length - 1)).1, (mnP ps.reverse (ps.length - 1)).2)) ps.reverse 0 = ((q : Nat) : Int) := by
  have hq' : q < ps.reverse.length := by rw [List.length_reverse]; omega
  have e : ps.reverse.getD q (0, 0) = ps.getD m (0, 0) := by rw [rev_at (by omega)]; congr 1; omega
  have := ix_plain (ps := ps.reverse) (m := q) hq' (diff_rev hd) (fun j hj => by rw [List.length_reverse] at hj; rw [e, rev_at hj]; exact hl _ (by omega))
  rw [List.length_reverse] at this; exact this
theorem nrm_rev (ht : twF ps 1 0 < 0) (hq : ps.length - 1 - m = q) : nrmL ps m = rotL ps.reverse q := by subst hq; exact if_pos ht
theorem nrm_pl (ht : ¬ twF ps 1 0 < 0) : nrmL ps m = rotL ps m := if_neg ht
end
end Go.Proofs.Ytomnkdlfmjdckaa.Am.Sp

namespace Go.Proofs.Ytomnkdlfmjdckaa.Am
open Go
set_option linter.unusedVariables false
set_option linter.unusedSimpArgs false
theorem set_pair {ps : List (Int × Int)} {j off : Nat} {x y : Int} (ho : off = 2 * j) (hj : j < ps.length) : setL (ps.flatMap ptc) off [.int .i64 x, .int .i64 y] = (ps.set j (x, y)).flatMap ptc := by
  subst ho
  simp only [setL]
  induction ps generalizing j with
  | nil => simp at hj
  | cons p r ih =>
    cases j with
    | zero => simp [ptc]
    | succ j =>
      have h := ih (j := j) (by simpa using hj)
      rw [List.set_cons_succ, List.flatMap_cons, List.flatMap_cons, ← h]
      rw [show 2 * (j + 1) = 2 * j + 1 + 1 by omega, show 2 * j + 1 + 1 + 1 = 2 * j + 1 + 1 + 1 by rfl]
      simp [ptc]
theorem plain_pairs (ps : List (Int × Int)) : plainAll (ps.flatMap ptc) = true := by
  unfold plainAll
  rw [List.all_eq_true]
  intro v hv
  obtain ⟨p, _, hp⟩ := List.mem_flatMap.1 hv
  simp only [ptc, List.mem_cons, List.not_mem_nil, or_false] at hp
  rcases hp with rfl | rfl <;> rfl
theorem cut_pairs {ps : List (Int × Int)} {off j m k : Nat} (ho : off = 2 * j) (hm : m = 2 * k) : ((ps.flatMap ptc).drop off).take m = ((ps.drop j).take k).flatMap ptc := by
  subst ho hm
  have hd : ∀ (n : Nat) (l : List (Int × Int)), (l.flatMap ptc).drop (2 * n) = (l.drop n).flatMap ptc := by
    intro n
    induction n with
    | zero => intro l; rfl
    | succ n ih =>
      intro l
      cases l with
      | nil => simp
      | cons p r => rw [List.flatMap_cons, show 2 * (n + 1) = 2 * n + 1 + 1 by omega, List.drop_succ_cons, ← ih r]; simp [ptc]
  have ht : ∀ (n : Nat) (l : List (Int × Int)), (l.flatMap ptc).take (2 * n) = (l.take n).flatMap ptc := by
    intro n
    induction n with
    | zero => intro l; simp
    | succ n ih =>
      intro l
      cases l with
      | nil => simp
      | cons p r => rw [List.flatMap_cons, show 2 * (n + 1) = 2 * n + 1 + 1 by omega, List.take_succ_cons, List.flatMap_cons, ← ih r]; simp [ptc]
  rw [hd, ht]
theorem plain_cut {l : List Value} (h : plainAll l = true) (a b : Nat) : plainAll ((l.drop a).take b) = true := by
  unfold plainAll at *
  rw [List.all_eq_true] at *
  exact fun v hv => h v (List.mem_of_mem_drop (List.mem_of_mem_take hv))
section
variable {C : Ctx} {P : Program} {ops : Array Oper} {S : St} {i : Nat}
theorem does_apg (N k' e z bt k n k2 off2 m : Nat) (b b2 : Blk) (l : List Value) (h1 : apyAt P ops S i = some (e, z, bt, some (.slice (some ⟨k, 0, none⟩) n 0), some (.slice (some ⟨k2, off2, none⟩) m 0)))
    (hH : S.H k = .live b) (hH2 : S.H k2 = .live b2) (hK : S.H k' = .fresh) (hz : (b.own && Nat.beq b.elem e && Nat.beq b.step z) = true) (hp : plainAll b2.cells = true) (hn : n * z ≤ b.cells.length) (ho : off2 + m * z ≤ b2.cells.length)
    (hc : 1 ≤ m ∨ (1 ≤ n ∧ b.cells.length = n * z)) (hB : (n + m) * bt ≤ 140737488355328) (hM : n + m ≤ 4611686018427387904) (hl : b.cells.take (n * z) ++ (b2.cells.drop off2).take (m * z) = l) (hN : n + m = N) :
    Does C P ops i S ⟨[k, k2, k'], .slice (some ⟨k', 0, none⟩) N 0, [(k, .gone), (k', .live ⟨l, e, true, z⟩)]⟩ := by
  subst hN
  unfold apyAt at h1
  split at h1
  · rename_i x y t e' inf zv hs
    simp only [Option.some.injEq, Prod.mk.injEq] at h1
    obtain ⟨rfl, rfl, rfl, hx, hy⟩ := h1
    have hz' := hz
    simp only [Bool.and_eq_true] at hz
    obtain ⟨⟨z1, z2⟩, z3⟩ := hz
    rcases Nat.eq_zero_or_pos m with rfl | hpos
    · rcases hc with hc | ⟨hn1, hc⟩
      · omega
      · rw [Nat.zero_mul, List.take_zero, List.append_nil, List.take_of_length_le (by omega)] at hl
        subst hl
        exact does_append0 hs hx hy hH hK hn1 hz'
    · have h := does_append (C := C) (P := P) (ops := ops) (S := S) (i := i) hs hx hy hH hH2 hK (by
        simp only [Bool.and_eq_true]
        exact ⟨⟨⟨⟨⟨⟨z1, z2⟩, z3⟩, plain_cut hp _ _⟩, Nat.ble_eq_true_of_le (by omega)⟩, Nat.ble_eq_true_of_le ho⟩, Nat.ble_eq_true_of_le hpos⟩) hB hM
      rw [List.drop_zero, hl] at h
      exact h
  · cases h1
def apzAt (P : Program) (ops : Array Oper) (S : St) (i : Nat) : Option (Operand × Operand × TypeId × TypeId × TypeId × IntKind × TypeInfo × Value) := match shapeAt ops S i with
  | some (.call c, true) => match c.callee with
    | .builtin b => match b with
      | .append => match c.args.toList, c.argTypes.toList with
        | [x, y], [t, t'] => match sliceElem P t with
          | some e => match P.underlying t' with
            | some (.int kn) => match P.info? e with
              | some inf => match inf.zero with
                | some z => bif (Nat.beq z.cells.size inf.size && Nat.ble 1 inf.size) then some (x, y, t, t', e, kn, inf, z) else none
                | none => none
              | none => none
            | _ => none
          | none => none
        | _, _ => none
      | _ => none
    | _ => none
  | _ => none
theorem apzAt_spec {x y : Operand} {t t' e : TypeId} {kn : IntKind} {inf : TypeInfo} {z : Value} (h : apzAt P ops S i = some (x, y, t, t', e, kn, inf, z)) :
    shapeAt ops S i = some (.call ⟨.builtin .append, #[x, y], #[t, t']⟩, true) ∧ P.underlying t = some (.slice e) ∧ P.underlying t' = some (.int kn) ∧ P.info? e = some inf ∧ inf.zero = some z ∧ z.cells.size = inf.size ∧ 0 < inf.size := by
  unfold apzAt at h
  split at h
  · rename_i c hsh
    obtain ⟨cal, ars, ats⟩ := c
    simp only at h
    split at h
    · split at h
      · split at h
        · rename_i x' y' t1 t2 hars hats
          split at h
          · rename_i e' he
            split at h
            · rename_i kn' hkn
              split at h
              · rename_i inf' hi
                split at h
                · rename_i z' hz
                  obtain ⟨hq, hh⟩ := bif_some h
                  cases hh
                  rw [Bool.and_eq_true] at hq
                  have ea : ars = #[x, y] := by rw [← Array.toArray_toList (xs := ars), hars]
                  have et : ats = #[t, t'] := by rw [← Array.toArray_toList (xs := ats), hats]
                  subst ea; subst et
                  exact ⟨hsh, sliceElem_spec he, hkn, hi, hz, Nat.eq_of_beq_eq_true hq.1, Nat.le_of_ble_eq_true hq.2⟩
                · cases h
              · cases h
            · cases h
          · cases h
        · cases h
      · cases h
    · cases h
  · cases h
def apzzAt (P : Program) (ops : Array Oper) (S : St) (i : Nat) : Option (Nat × Nat × Nat × Option Value × Option Value) := match apzAt P ops S i with
  | some (x, y, _, _, e, _, inf, _) => some (e, inf.size, inf.bytes, ev S x, ev S y)
  | none => none
theorem does_room (k' e z bt n : Nat) (n' : Int) (kd : IntKind) (h1 : apzzAt P ops S i = some (e, z, bt, some (.slice none 0 0), some (.int kd n'))) (hK : S.H k' = .fresh) (hn : n' = (n : Int)) (h0 : 1 ≤ n)
    (hB : n * bt ≤ 140737488355328) (hM : n ≤ 4611686018427387904) :
    Does C P ops i S ⟨[k'], .slice (some ⟨k', 0, none⟩) n 0, [(k', .live ⟨[], e, true, z⟩)]⟩ := by
  subst hn
  unfold apzzAt at h1
  split at h1
  · rename_i x y t t' e' kn inf zv hs
    simp only [Option.some.injEq, Prod.mk.injEq] at h1
    obtain ⟨rfl, rfl, rfl, hx, hy⟩ := h1
    obtain ⟨hsh, hu, htn, hi, hzv, hzs, hpos⟩ := apzAt_spec hs
    refine .of_run hsh fun o ho S' ρ a w hT hH' hr => ?_
    have hrx := ev_rel hr (by rw [hT x (by simp [Op.operands, Call.operands])]; exact hx)
    have hry := ev_rel hr (by rw [hT y (by simp [Op.operands, Call.operands])]; exact hy)
    generalize hax : a.eval x = ax at hrx
    generalize hay : a.eval y = ay at hry
    cases hrx with
    | nilSlice =>
      cases hry with
      | int =>
        have hrun := Lib.run_append_nil_zeros (P := P) w t t' o.type _ inf zv kd kn hu htn hi hzv n (by omega) hpos (by omega) (by omega)
        obtain ⟨hle, hrel⟩ := Rel.grown hr (by rw [hH' k' (by simp)]; exact hK) (us := []) (vs := []) rfl (fun j u hu => by simp at hu) (Builtin.zeroCells zv.cells n ++ Builtin.zeroCells zv.cells (grownCap w n 0 e' - n)) e' inf.size
        have hge := grownCap_ge w n 0 e'
        have ee : (#[] : Array Value) ++ (Builtin.zeroCells zv.cells n ++ Builtin.zeroCells zv.cells (grownCap w n 0 e' - n)) = Builtin.zeroCells zv.cells n ++ Builtin.zeroCells zv.cells (grownCap w n 0 e' - n) := Array.empty_append
        rw [show ([] : List Value).toArray = #[] from rfl, ee] at hrel hle
        refine ⟨_, _, _, .slice (some ⟨w.heap.size, 0, none⟩) n (grownCap w n 0 e'), ?_, .inl rfl, ?_, hrel⟩
        · have ev1 : (#[x, y] : Array Operand).map a.eval = #[.slice none 0 0, .int kd n] := by simp [hax, hay]
          simp only [execOp, ho, resolve, ev1, Sem.run_bind, Sem.run_pure, Result.andThen_ok, invoke, builtin, hrun]
        · refine .slice k' 0 n 0 (grownCap w n 0 e') _ (upd_self _ _ _) hge ?_
          simp only [Array.size_append, size_zeroCells, hzs, ← Nat.add_mul, Nat.zero_add]
          exact Nat.mul_le_mul_right _ (by omega)
  · cases h1
end
end Go.Proofs.Ytomnkdlfmjdckaa.Am
namespace Go.Proofs.Ytomnkdlfmjdckaa.Am
open Go
set_option linter.unusedVariables false
set_option linter.unusedSimpArgs false
section
variable {C : Ctx} {P : Program} {ops : Array Oper} {S : St} {i : Nat}
def slnAt (P : Program) (ops : Array Oper) (S : St) (i : Nat) : Option (Option Value × Option Value) := match shapeAt ops S i with
  | some (.binOp op t x y _, true) => match op with
    | .eql => match sliceElem P t with
      | some _ => some (ev S x, ev S y)
      | none => none
    | _ => none
  | _ => none
theorem does_sln {k off n c : Nat} (h1 : slnAt P ops S i = some (some (.slice (some ⟨k, off, none⟩) n c), some (.slice none 0 0))) (hn : 1 ≤ n) : Does C P ops i S ⟨[], .bool false, []⟩ := by
  unfold slnAt at h1
  split at h1
  · rename_i op t x y t2 hs
    split at h1
    · split at h1
      · rename_i e he
        simp only [Option.some.injEq, Prod.mk.injEq] at h1
        obtain ⟨hx, hy⟩ := h1
        have hu := sliceElem_spec he
        refine .of_run hs fun o ho S' ρ a w hT hH' hr => ?_
        have hrx := ev_rel hr (by rw [hT x (by simp [Op.operands])]; exact hx)
        have hry := ev_rel hr (by rw [hT y (by simp [Op.operands])]; exact hy)
        generalize hax : a.eval x = ax at hrx
        generalize hay : a.eval y = ay at hry
        cases hry with
        | nilSlice =>
          cases hrx with
          | slice0 => omega
          | slice _ _ _ _ cap sp hk hc1 hs1 =>
            refine ⟨_, w, ρ, .bool false, ?_, .inl rfl, .bool _, hr⟩
            have hg : (eqGuard .eql t x y (.slice (some ⟨sp.block, sp.off + off, none⟩) n cap) (.slice none 0 0)).run P w = .ok () w := by
              simp [eqGuard]
            have he : (Op.equal t (.slice (some ⟨sp.block, sp.off + off, none⟩) n cap) (.slice none 0 0)).run P w = .ok false w := by
              have key : ∀ d : Nat, (Op.equalIn (d + 1) t (.slice (some ⟨sp.block, sp.off + off, none⟩) n cap) (.slice none 0 0)).run P w = .ok false w := fun d => by simp [Op.equalIn, run_underlying hu]
              exact key 9999
            simp [execOp, ho, hax, hay, hg, binOp, he]
      · cases h1
    · cases h1
  · cases h1
end
end Go.Proofs.Ytomnkdlfmjdckaa.Am
namespace Go.Proofs.Ytomnkdlfmjdckaa.Am
open Go
set_option linter.unusedVariables false
set_option linter.unusedSimpArgs false
end Go.Proofs.Ytomnkdlfmjdckaa.Am

namespace Go.Proofs.Ytomnkdlfmjdckaa.Am
open Go Go.Proofs
set_option maxRecDepth 100000
set_option maxHeartbeats 4000000
set_option linter.unusedVariables false
set_option linter.unusedSimpArgs false
theorem limit_ok (n m : Int) (h0 : 0 ≤ m) (h1 : m ≤ 4611686018427387904) :
    AC Try.prog 56 0 ([.int .i64 n, .int .i64 m]) [] (.int .i64 (Sp.lim m n)) [] := by
  refine ac_in Try.func56 (fun w0 W pin => ?_)
  refine aw_p 3 (
    .a 1 1 <| .nil _ _) ?_
  refine aw_p 7 (
    .a 1 1 <| .p (does_i (0 - m) (wrap_i64 (by omega) (by omega)) .i64) <| .a 5 1 <| .nil _ _) ?_
  refine aw_rt ?_
  exact en_ret [.int .i64 (if (if m < n then m else n) > (0 - m) then (if m < n then m else n) else (0 - m))] (show (.int .i64 (if (if m < n then m else n) > (0 - m) then (if m < n then m else n) else (0 - m)) : Value) = (.int .i64 (Sp.lim m n)) from (congrArg (Value.int .i64) (show (if (if m < n then m else n) > (0 - m) then (if m < n then m else n) else (0 - m)) = (Sp.lim m n) from by (first | rfl | (simp only [Sp.lim, Sp.cmp, Sp.sgn]; (repeat' split) <;> omega)))))
theorem clamp_ok (x y : Int) :
    AC Try.prog 28 0 ([.agg #[.int .i64 x, .int .i64 y]]) [] (.agg #[.int .i64 (Sp.lim 1048576 x), .int .i64 (Sp.lim 1048576 y)]) [] := by
  refine ac_in Try.func28 (fun w0 W pin => ?_)
  refine aw_p 3 (
    .a 2 1 <| .nil _ _) ?_
  refine aw_d 7 (
    .a 2 3 <| .p (does_c (limit_ok x 1048576 (by decide) (by decide))) <| .a 2 3 <| .p (does_c (limit_ok y 1048576 (by decide) (by decide))) <| .a 2 3 <| .nil _ _) ?_
  refine aw_rt ?_
  exact en_ret [.agg #[.int .i64 (Sp.lim 1048576 x), .int .i64 (Sp.lim 1048576 y)]] (by kernel_rfl)
theorem pok_ok (x y : Int) :
    AC Try.prog 38 0 ([.agg #[.int .i64 x, .int .i64 y]]) [] (.bool ((x == (Sp.lim 1048576 x)) && ((y == (Sp.lim 1048576 y)) && true))) [] := by
  refine ac_in Try.func38 (fun w0 W pin => ?_)
  refine aw_p 3 (
    .a 2 1 <| .nil _ _) ?_
  refine aw_d 7 (
    .a 2 2 <| .p (does_c (clamp_ok x y)) <| .p (does_e ((x == (Sp.lim 1048576 x)) && ((y == (Sp.lim 1048576 y)) && true)) (rfl)) <| .a 1 2 <| .nil _ _) ?_
  refine aw_rt ?_
  exact en_ret [.bool ((x == (Sp.lim 1048576 x)) && ((y == (Sp.lim 1048576 y)) && true))] (by kernel_rfl)
theorem isnan_ok (x : Int) :
    AC Try.prog 73 0 ([.int .i64 x]) [] (.bool false) [] := by
  refine ac_in Try.func73 (fun w0 W pin => ?_)
  refine aw_p 3 (
    .a 1 1 <| .nil _ _) ?_
  refine aw_p 7 (
    .a 2 1 <| .p (does_b false ((show (x != x) = false from by simp))) <| .a 1 1 <| .nil _ _) ?_
  refine aw_rt ?_
  exact en_ret [.bool false] (by kernel_rfl)
theorem compare_ok (x y : Int) :
    AC Try.prog 58 0 ([.int .i64 x, .int .i64 y]) [] (.int .i64 (Sp.cmp x y)) [] := by
  refine ac_in Try.func58 (fun w0 W pin => ?_)
  refine aw_p 3 (
    .a 1 1 <| .nil _ _) ?_
  refine aw_p 7 (
    .a 1 1 <| .p (does_c (isnan_ok x)) <| .a 1 1 <| .nil _ _) ?_
  refine aw_p 15 (
    .a 1 1 <| .p (does_c (isnan_ok y)) <| .a 1 1 <| .nil _ _) ?_
  refine aw_sq 30 31 ?_
  refine aw_p 61 (
    .a 1 1 <| .nil _ _) ?_
  refine aw_fl 123 ?_
  refine aw_sk ?_
  refine then_normal ?_
  refine aw_sq 62 63 ?_
  refine aw_p 125 (
    .a 1 1 <| .nil _ _) ?_
  refine aw_fl 251 ?_
  refine aw_sk ?_
  refine then_normal ?_
  refine aw_sq 126 127 ?_
  refine aw_p 253 (
    .a 3 1 <| .nil _ _) ?_
  refine aw_cd 506 507 (decide (x < y)) (fun h1 => ?_) (fun h1 => ?_)
  · have h1p : ((x < y)) := by first | (simpa using h1) | (have h1q := h1; simp at h1q; omega) | (have h1q := bx1 h1; simp at h1q; omega)
    refine aw_p 1013 (
      .a 1 1 <| .nil _ _) ?_
    refine aw_rt ?_
    refine then_ret ?_
    exact en_ret [.int .i64 (-1)] (show (.int .i64 (-1) : Value) = (.int .i64 (Sp.cmp x y)) from (congrArg (Value.int .i64) (show (-1) = (Sp.cmp x y) from by (simp only [decide_eq_true_eq, decide_eq_false_iff_not] at *; simp only [Sp.lim, Sp.cmp, Sp.sgn]; (repeat' split) <;> omega))))
  · have h1p : ¬ ((x < y)) := by first | (simpa using h1) | (have h1q := h1; simp at h1q; omega) | (have h1q := bx2 h1; simp at h1q; omega)
    refine aw_sk ?_
    refine then_normal ?_
    refine aw_sq 254 255 ?_
    refine aw_p 509 (
      .a 3 1 <| .nil _ _) ?_
    refine aw_cd 1018 1019 (decide (x > y)) (fun h2 => ?_) (fun h2 => ?_)
    · have h2p : ((x > y)) := by first | (simpa using h2) | (have h2q := h2; simp at h2q; omega) | (have h2q := bx1 h2; simp at h2q; omega)
      refine aw_p 2037 (
        .a 1 1 <| .nil _ _) ?_
      refine aw_rt ?_
      refine then_ret ?_
      exact en_ret [.int .i64 1] (show (.int .i64 1 : Value) = (.int .i64 (Sp.cmp x y)) from (congrArg (Value.int .i64) (show 1 = (Sp.cmp x y) from by (simp only [decide_eq_true_eq, decide_eq_false_iff_not] at *; simp only [Sp.lim, Sp.cmp, Sp.sgn]; (repeat' split) <;> omega))))
    · have h2p : ¬ ((x > y)) := by first | (simpa using h2) | (have h2q := h2; simp at h2q; omega) | (have h2q := bx2 h2; simp at h2q; omega)
      refine aw_sk ?_
      refine then_normal ?_
      refine aw_p 511 (
        .a 1 1 <| .nil _ _) ?_
      refine aw_rt ?_
      exact en_ret [.int .i64 0] (show (.int .i64 0 : Value) = (.int .i64 (Sp.cmp x y)) from (congrArg (Value.int .i64) (show 0 = (Sp.cmp x y) from by (simp only [decide_eq_true_eq, decide_eq_false_iff_not] at *; simp only [Sp.lim, Sp.cmp, Sp.sgn]; (repeat' split) <;> omega))))
theorem below_ok (x n : Int) (h0 : 0 < n) (hz : n ≤ 9223372036854775807) :
    AC Try.prog 54 0 ([.int .i64 x, .int .i64 n]) [] (.int .i64 (x % n)) [] := by
  have hlo := Sp.tmod_lo (x := x) h0
  refine ac_in Try.func54 (fun w0 W pin => ?_)
  refine aw_p 3 (
    .a 1 1 <| .nil _ _) ?_
  refine aw_p 7 (
    .a 2 1 <| .p (does_rem (t := 3) (t2 := 3) (x := .tmp 5) (y := .tmp 6) (k := .i64) (a := x) (b := n) (by kernel_rfl) (by kernel_rfl) (by kernel_rfl) (by omega)) <| .a 1 1 <| .nil _ _) ?_
  refine aw_sq 14 15 ?_
  refine aw_p 29 (
    .a 2 1 <| .nil _ _) ?_
  refine aw_cd 58 59 (decide ((Int.tmod x n) < 0)) (fun h1 => ?_) (fun h1 => ?_)
  · have h1p : (((Int.tmod x n) < 0)) := by first | (simpa using h1) | (have h1q := h1; simp at h1q; omega) | (have h1q := bx1 h1; simp at h1q; omega)
    refine aw_p1 (
      .a 2 1 <| .p (does_i ((Int.tmod x n) + n) (wrap_i64 (by omega) (by omega)) .i64) <| .a 1 1 <| .nil _ _) ?_
    refine then_normal ?_
    refine aw_p 31 (
      .a 2 1 <| .nil _ _) ?_
    refine aw_rt ?_
    exact en_ret [.int .i64 ((Int.tmod x n) + n)] (show (.int .i64 ((Int.tmod x n) + n) : Value) = (.int .i64 (x % n)) from (congrArg (Value.int .i64) (show ((Int.tmod x n) + n) = (x % n) from by (first | exact Sp.below_neg h0 (by assumption) | exact Sp.below_pos h0 (by omega)))))
  · have h1p : ¬ (((Int.tmod x n) < 0)) := by first | (simpa using h1) | (have h1q := h1; simp at h1q; omega) | (have h1q := bx2 h1; simp at h1q; omega)
    refine aw_sk ?_
    refine then_normal ?_
    refine aw_p 31 (
      .a 2 1 <| .nil _ _) ?_
    refine aw_rt ?_
    exact en_ret [.int .i64 (Int.tmod x n)] (show (.int .i64 (Int.tmod x n) : Value) = (.int .i64 (x % n)) from (congrArg (Value.int .i64) (show (Int.tmod x n) = (x % n) from by (first | exact Sp.below_neg h0 (by assumption) | exact Sp.below_pos h0 (by omega)))))
theorem way_ok (ax ay bx b_y : Int) :
    AC Try.prog 62 0 ([.agg #[.int .i64 ax, .int .i64 ay], .agg #[.int .i64 bx, .int .i64 b_y]]) [] (.agg #[.int .i64 (Sp.lim 1048576 bx - Sp.lim 1048576 ax), .int .i64 (Sp.lim 1048576 b_y - Sp.lim 1048576 ay)]) [] := by
  have q1 := Sp.lim_bd (m := 1048576) (by decide) ax; have q2 := Sp.lim_bd (m := 1048576) (by decide) ay; have q3 := Sp.lim_bd (m := 1048576) (by decide) bx; have q4 := Sp.lim_bd (m := 1048576) (by decide) b_y
  refine ac_in Try.func62 (fun w0 W pin => ?_)
  refine aw_p 3 (
    .a 3 1 <| .nil _ _) ?_
  refine aw_d 7 (
    .a 1 4 <| .p (does_c (clamp_ok ax ay)) <| .a 1 4 <| .p (does_c (clamp_ok bx b_y)) <| .a 2 4 <| .nil _ _) ?_
  refine aw_p 15 (
    .a 4 4 <| .p (does_i ((Sp.lim 1048576 bx) - (Sp.lim 1048576 ax)) (wrap_i64 (by omega) (by omega)) .i64) <| .a 4 4 <| .p (does_i ((Sp.lim 1048576 b_y) - (Sp.lim 1048576 ay)) (wrap_i64 (by omega) (by omega)) .i64) <| .a 2 4 <| .nil _ _) ?_
  refine aw_rt ?_
  exact en_ret [.agg #[.int .i64 ((Sp.lim 1048576 bx) - (Sp.lim 1048576 ax)), .int .i64 ((Sp.lim 1048576 b_y) - (Sp.lim 1048576 ay))]] (show (.agg #[.int .i64 ((Sp.lim 1048576 bx) - (Sp.lim 1048576 ax)), .int .i64 ((Sp.lim 1048576 b_y) - (Sp.lim 1048576 ay))] : Value) = (.agg #[.int .i64 (Sp.lim 1048576 bx - Sp.lim 1048576 ax), .int .i64 (Sp.lim 1048576 b_y - Sp.lim 1048576 ay)]) from (congrArg (fun z : List Value => Value.agg z.toArray) (lcons (congrArg (Value.int .i64) (show ((Sp.lim 1048576 bx) - (Sp.lim 1048576 ax)) = (Sp.lim 1048576 bx - Sp.lim 1048576 ax) from by rfl)) (lcons (congrArg (Value.int .i64) (show ((Sp.lim 1048576 b_y) - (Sp.lim 1048576 ay)) = (Sp.lim 1048576 b_y - Sp.lim 1048576 ay) from by rfl)) rfl))))
theorem cross_ok (ax ay bx b_y cx cy : Int) :
    AC Try.prog 40 0 ([.agg #[.int .i64 ax, .int .i64 ay], .agg #[.int .i64 bx, .int .i64 b_y], .agg #[.int .i64 cx, .int .i64 cy]]) [] (.int .i64 (Sp.crs (Sp.lim 1048576 ax) (Sp.lim 1048576 ay) (Sp.lim 1048576 bx) (Sp.lim 1048576 b_y) (Sp.lim 1048576 cx) (Sp.lim 1048576 cy))) [] := by
  have qax := Sp.lim_bd (m := 1048576) (by decide) ax; have qay := Sp.lim_bd (m := 1048576) (by decide) ay; have qbx := Sp.lim_bd (m := 1048576) (by decide) bx; have qb_y := Sp.lim_bd (m := 1048576) (by decide) b_y; have qcx := Sp.lim_bd (m := 1048576) (by decide) cx; have qcy := Sp.lim_bd (m := 1048576) (by decide) cy; have p0 := Sp.mul_bd (a := Sp.lim 1048576 bx - Sp.lim 1048576 ax) (b := Sp.lim 1048576 cy - Sp.lim 1048576 ay) (A := 2097152) (B := 2097152) (by omega) (by omega) (by omega) (by omega); have p1 := Sp.mul_bd (a := Sp.lim 1048576 b_y - Sp.lim 1048576 ay) (b := Sp.lim 1048576 cx - Sp.lim 1048576 ax) (A := 2097152) (B := 2097152) (by omega) (by omega) (by omega) (by omega)
  refine ac_in Try.func40 (fun w0 W pin => ?_)
  refine aw_p 3 (
    .a 4 1 <| .nil _ _) ?_
  refine aw_d 7 (
    .a 2 4 <| .p (does_c (way_ok ax ay bx b_y)) <| .a 2 4 <| .p (does_c (way_ok ax ay cx cy)) <| .a 4 4 <| .nil _ _) ?_
  refine aw_p 15 (
    .a 4 6 <| .p (does_i ((Sp.lim 1048576 bx - Sp.lim 1048576 ax) * (Sp.lim 1048576 cy - Sp.lim 1048576 ay)) (wrap_i64 (by omega) (by omega)) .i64) <| .a 4 6 <| .p (does_i ((Sp.lim 1048576 b_y - Sp.lim 1048576 ay) * (Sp.lim 1048576 cx - Sp.lim 1048576 ax)) (wrap_i64 (by omega) (by omega)) .i64) <|
    .p (does_i (((Sp.lim 1048576 bx - Sp.lim 1048576 ax) * (Sp.lim 1048576 cy - Sp.lim 1048576 ay)) - ((Sp.lim 1048576 b_y - Sp.lim 1048576 ay) * (Sp.lim 1048576 cx - Sp.lim 1048576 ax))) (wrap_i64 (by omega) (by omega)) .i64) <| .a 1 6 <| .nil _ _) ?_
  refine aw_w [(6, .int .i64 (((Sp.lim 1048576 bx - Sp.lim 1048576 ax) * (Sp.lim 1048576 cy - Sp.lim 1048576 ay)) - ((Sp.lim 1048576 b_y - Sp.lim 1048576 ay) * (Sp.lim 1048576 cx - Sp.lim 1048576 ax))))] [] ?_
  refine aw_rt ?_
  exact en_ret [.int .i64 (((Sp.lim 1048576 bx - Sp.lim 1048576 ax) * (Sp.lim 1048576 cy - Sp.lim 1048576 ay)) - ((Sp.lim 1048576 b_y - Sp.lim 1048576 ay) * (Sp.lim 1048576 cx - Sp.lim 1048576 ax)))] (show (.int .i64 (((Sp.lim 1048576 bx - Sp.lim 1048576 ax) * (Sp.lim 1048576 cy - Sp.lim 1048576 ay)) - ((Sp.lim 1048576 b_y - Sp.lim 1048576 ay) * (Sp.lim 1048576 cx - Sp.lim 1048576 ax))) : Value) = (.int .i64 (Sp.crs (Sp.lim 1048576 ax) (Sp.lim 1048576 ay) (Sp.lim 1048576 bx) (Sp.lim 1048576 b_y) (Sp.lim 1048576 cx) (Sp.lim 1048576 cy))) from (congrArg (Value.int .i64) (show (((Sp.lim 1048576 bx - Sp.lim 1048576 ax) * (Sp.lim 1048576 cy - Sp.lim 1048576 ay)) - ((Sp.lim 1048576 b_y - Sp.lim 1048576 ay) * (Sp.lim 1048576 cx - Sp.lim 1048576 ax))) = (Sp.crs (Sp.lim 1048576 ax) (Sp.lim 1048576 ay) (Sp.lim 1048576 bx) (Sp.lim 1048576 b_y) (Sp.lim 1048576 cx) (Sp.lim 1048576 cy)) from by rfl)))
theorem dot_ok (ax ay bx b_y cx cy : Int) :
    AC Try.prog 57 0 ([.agg #[.int .i64 ax, .int .i64 ay], .agg #[.int .i64 bx, .int .i64 b_y], .agg #[.int .i64 cx, .int .i64 cy]]) [] (.int .i64 (Sp.dot (Sp.lim 1048576 ax) (Sp.lim 1048576 ay) (Sp.lim 1048576 bx) (Sp.lim 1048576 b_y) (Sp.lim 1048576 cx) (Sp.lim 1048576 cy))) [] := by
  have qax := Sp.lim_bd (m := 1048576) (by decide) ax; have qay := Sp.lim_bd (m := 1048576) (by decide) ay; have qbx := Sp.lim_bd (m := 1048576) (by decide) bx; have qb_y := Sp.lim_bd (m := 1048576) (by decide) b_y; have qcx := Sp.lim_bd (m := 1048576) (by decide) cx; have qcy := Sp.lim_bd (m := 1048576) (by decide) cy; have p0 := Sp.mul_bd (a := Sp.lim 1048576 bx - Sp.lim 1048576 ax) (b := Sp.lim 1048576 cx - Sp.lim 1048576 ax) (A := 2097152) (B := 2097152) (by omega) (by omega) (by omega) (by omega); have p1 := Sp.mul_bd (a := Sp.lim 1048576 b_y - Sp.lim 1048576 ay) (b := Sp.lim 1048576 cy - Sp.lim 1048576 ay) (A := 2097152) (B := 2097152) (by omega) (by omega) (by omega) (by omega)
  refine ac_in Try.func57 (fun w0 W pin => ?_)
  refine aw_p 3 (
    .a 4 1 <| .nil _ _) ?_
  refine aw_d 7 (
    .a 2 4 <| .p (does_c (way_ok ax ay bx b_y)) <| .a 2 4 <| .p (does_c (way_ok ax ay cx cy)) <| .a 4 4 <| .nil _ _) ?_
  refine aw_p 15 (
    .a 4 6 <| .p (does_i ((Sp.lim 1048576 bx - Sp.lim 1048576 ax) * (Sp.lim 1048576 cx - Sp.lim 1048576 ax)) (wrap_i64 (by omega) (by omega)) .i64) <| .a 4 6 <| .p (does_i ((Sp.lim 1048576 b_y - Sp.lim 1048576 ay) * (Sp.lim 1048576 cy - Sp.lim 1048576 ay)) (wrap_i64 (by omega) (by omega)) .i64) <|
    .p (does_i (((Sp.lim 1048576 bx - Sp.lim 1048576 ax) * (Sp.lim 1048576 cx - Sp.lim 1048576 ax)) + ((Sp.lim 1048576 b_y - Sp.lim 1048576 ay) * (Sp.lim 1048576 cy - Sp.lim 1048576 ay))) (wrap_i64 (by omega) (by omega)) .i64) <| .a 1 6 <| .nil _ _) ?_
  refine aw_w [(6, .int .i64 (((Sp.lim 1048576 bx - Sp.lim 1048576 ax) * (Sp.lim 1048576 cx - Sp.lim 1048576 ax)) + ((Sp.lim 1048576 b_y - Sp.lim 1048576 ay) * (Sp.lim 1048576 cy - Sp.lim 1048576 ay))))] [] ?_
  refine aw_rt ?_
  exact en_ret [.int .i64 (((Sp.lim 1048576 bx - Sp.lim 1048576 ax) * (Sp.lim 1048576 cx - Sp.lim 1048576 ax)) + ((Sp.lim 1048576 b_y - Sp.lim 1048576 ay) * (Sp.lim 1048576 cy - Sp.lim 1048576 ay)))] (show (.int .i64 (((Sp.lim 1048576 bx - Sp.lim 1048576 ax) * (Sp.lim 1048576 cx - Sp.lim 1048576 ax)) + ((Sp.lim 1048576 b_y - Sp.lim 1048576 ay) * (Sp.lim 1048576 cy - Sp.lim 1048576 ay))) : Value) = (.int .i64 (Sp.dot (Sp.lim 1048576 ax) (Sp.lim 1048576 ay) (Sp.lim 1048576 bx) (Sp.lim 1048576 b_y) (Sp.lim 1048576 cx) (Sp.lim 1048576 cy))) from (congrArg (Value.int .i64) (show (((Sp.lim 1048576 bx - Sp.lim 1048576 ax) * (Sp.lim 1048576 cx - Sp.lim 1048576 ax)) + ((Sp.lim 1048576 b_y - Sp.lim 1048576 ay) * (Sp.lim 1048576 cy - Sp.lim 1048576 ay))) = (Sp.dot (Sp.lim 1048576 ax) (Sp.lim 1048576 ay) (Sp.lim 1048576 bx) (Sp.lim 1048576 b_y) (Sp.lim 1048576 cx) (Sp.lim 1048576 cy)) from by rfl)))
theorem turn_ok (ax ay bx b_y cx cy : Int) :
    AC Try.prog 30 0 ([.agg #[.int .i64 ax, .int .i64 ay], .agg #[.int .i64 bx, .int .i64 b_y], .agg #[.int .i64 cx, .int .i64 cy]]) [] (.int .i64 (Sp.cmp (Sp.crs (Sp.lim 1048576 ax) (Sp.lim 1048576 ay) (Sp.lim 1048576 bx) (Sp.lim 1048576 b_y) (Sp.lim 1048576 cx) (Sp.lim 1048576 cy)) 0)) [] := by
  refine ac_in Try.func30 (fun w0 W pin => ?_)
  refine aw_p 3 (
    .a 4 1 <| .nil _ _) ?_
  refine aw_p 7 (
    .a 3 4 <| .p (does_c (cross_ok ax ay bx b_y cx cy)) <| .p (does_c (compare_ok (Sp.crs (Sp.lim 1048576 ax) (Sp.lim 1048576 ay) (Sp.lim 1048576 bx) (Sp.lim 1048576 b_y) (Sp.lim 1048576 cx) (Sp.lim 1048576 cy)) 0)) <| .a 1 4 <| .nil _ _) ?_
  refine aw_rt ?_
  exact en_ret [.int .i64 (Sp.cmp (Sp.crs (Sp.lim 1048576 ax) (Sp.lim 1048576 ay) (Sp.lim 1048576 bx) (Sp.lim 1048576 b_y) (Sp.lim 1048576 cx) (Sp.lim 1048576 cy)) 0)] (by kernel_rfl)
theorem on_ok (ax ay bx b_y px py : Int) :
    AC Try.prog 29 0 ([.agg #[.int .i64 ax, .int .i64 ay], .agg #[.int .i64 bx, .int .i64 b_y], .agg #[.int .i64 px, .int .i64 py]]) [] (.bool (Sp.onb (Sp.lim 1048576 ax) (Sp.lim 1048576 ay) (Sp.lim 1048576 bx) (Sp.lim 1048576 b_y) (Sp.lim 1048576 px) (Sp.lim 1048576 py))) [] := by
  refine ac_in Try.func29 (fun w0 W pin => ?_)
  refine aw_p 3 (
    .a 4 1 <| .nil _ _) ?_
  rcases Bool.eq_false_or_eq_true ((Sp.cmp (Sp.crs (Sp.lim 1048576 ax) (Sp.lim 1048576 ay) (Sp.lim 1048576 bx) (Sp.lim 1048576 b_y) (Sp.lim 1048576 px) (Sp.lim 1048576 py)) 0) == 0) with h1 | h1
  · have h1p : (((Sp.cmp (Sp.crs (Sp.lim 1048576 ax) (Sp.lim 1048576 ay) (Sp.lim 1048576 bx) (Sp.lim 1048576 b_y) (Sp.lim 1048576 px) (Sp.lim 1048576 py)) 0) = 0)) := by first | (simpa using h1) | (have h1q := h1; simp at h1q; omega) | (have h1q := bx1 h1; simp at h1q; omega)
    refine aw_p 7 (
      .a 3 4 <| .p (does_c (turn_ok ax ay bx b_y px py)) <| .p (does_b true (h1)) <| .a 4 4 <| .p (does_c (dot_ok px py ax ay bx b_y)) <| .a 3 4 <| .nil _ _) ?_
    refine aw_rt ?_
    exact en_ret [.bool (decide ((Sp.dot (Sp.lim 1048576 px) (Sp.lim 1048576 py) (Sp.lim 1048576 ax) (Sp.lim 1048576 ay) (Sp.lim 1048576 bx) (Sp.lim 1048576 b_y)) ≤ 0))] (show (.bool (decide ((Sp.dot (Sp.lim 1048576 px) (Sp.lim 1048576 py) (Sp.lim 1048576 ax) (Sp.lim 1048576 ay) (Sp.lim 1048576 bx) (Sp.lim 1048576 b_y)) ≤ 0)) : Value) = (.bool (Sp.onb (Sp.lim 1048576 ax) (Sp.lim 1048576 ay) (Sp.lim 1048576 bx) (Sp.lim 1048576 b_y) (Sp.lim 1048576 px) (Sp.lim 1048576 py))) from (congrArg Value.bool (show (decide ((Sp.dot (Sp.lim 1048576 px) (Sp.lim 1048576 py) (Sp.lim 1048576 ax) (Sp.lim 1048576 ay) (Sp.lim 1048576 bx) (Sp.lim 1048576 b_y)) ≤ 0)) = (Sp.onb (Sp.lim 1048576 ax) (Sp.lim 1048576 ay) (Sp.lim 1048576 bx) (Sp.lim 1048576 b_y) (Sp.lim 1048576 px) (Sp.lim 1048576 py)) from by (simp [Sp.onb, *]))))
  · have h1p : ¬ (((Sp.cmp (Sp.crs (Sp.lim 1048576 ax) (Sp.lim 1048576 ay) (Sp.lim 1048576 bx) (Sp.lim 1048576 b_y) (Sp.lim 1048576 px) (Sp.lim 1048576 py)) 0) = 0)) := by first | (simpa using h1) | (have h1q := h1; simp at h1q; omega) | (have h1q := bx2 h1; simp at h1q; omega)
    refine aw_p 7 (
      .a 3 4 <| .p (does_c (turn_ok ax ay bx b_y px py)) <| .p (does_b false (h1)) <| .a 8 4 <| .nil _ _) ?_
    refine aw_rt ?_
    exact en_ret [.bool false] (show (.bool false : Value) = (.bool (Sp.onb (Sp.lim 1048576 ax) (Sp.lim 1048576 ay) (Sp.lim 1048576 bx) (Sp.lim 1048576 b_y) (Sp.lim 1048576 px) (Sp.lim 1048576 py))) from (congrArg Value.bool (show false = (Sp.onb (Sp.lim 1048576 ax) (Sp.lim 1048576 ay) (Sp.lim 1048576 bx) (Sp.lim 1048576 b_y) (Sp.lim 1048576 px) (Sp.lim 1048576 py)) from by (simp [Sp.onb, *]))))
theorem pcmp_ok (ax ay bx b_y : Int) :
    AC Try.prog 32 0 ([.agg #[.int .i64 ax, .int .i64 ay], .agg #[.int .i64 bx, .int .i64 b_y]]) [] (.int .i64 (Sp.pcmp ax ay bx b_y)) [] := by
  refine ac_in Try.func32 (fun w0 W pin => ?_)
  refine aw_p 3 (
    .a 3 1 <| .nil _ _) ?_
  refine aw_sq 6 7 ?_
  refine aw_p 13 (
    .a 4 3 <| .p (does_c (compare_ok ax bx)) <| .a 1 3 <| .nil _ _) ?_
  refine aw_p 27 (
    .a 2 3 <| .nil _ _) ?_
  refine aw_cd 54 55 ((Sp.cmp ax bx) != 0) (fun h1 => ?_) (fun h1 => ?_)
  · have h1p : (¬ ((Sp.cmp ax bx) = 0)) := by first | (simpa using h1) | (have h1q := h1; simp at h1q; omega) | (have h1q := bx1 h1; simp at h1q; omega)
    refine aw_p 109 (
      .a 2 3 <| .nil _ _) ?_
    refine aw_rt ?_
    refine then_ret ?_
    exact en_ret [.int .i64 (Sp.cmp ax bx)] (show (.int .i64 (Sp.cmp ax bx) : Value) = (.int .i64 (Sp.pcmp ax ay bx b_y)) from (congrArg (Value.int .i64) (show (Sp.cmp ax bx) = (Sp.pcmp ax ay bx b_y) from by (simp [Sp.pcmp, *]))))
  · have h1p : ¬ (¬ ((Sp.cmp ax bx) = 0)) := by first | (simpa using h1) | (have h1q := h1; simp at h1q; omega) | (have h1q := bx2 h1; simp at h1q; omega)
    refine aw_sk ?_
    refine then_normal ?_
    refine aw_p 15 (
      .a 4 3 <| .p (does_c (compare_ok ay b_y)) <| .a 1 3 <| .nil _ _) ?_
    refine aw_rt ?_
    exact en_ret [.int .i64 (Sp.cmp ay b_y)] (show (.int .i64 (Sp.cmp ay b_y) : Value) = (.int .i64 (Sp.pcmp ax ay bx b_y)) from (congrArg (Value.int .i64) (show (Sp.cmp ay b_y) = (Sp.pcmp ax ay bx b_y) from by (simp [Sp.pcmp, *]))))
theorem next_own (xs : List Int) (p : Nat) (n : Int) (hp : p < xs.length) (h0 : 0 < n) (hz : n ≤ 9223372036854775807) :
    AC Try.prog 26 2 ([.pointer (some ⟨0, 0, none⟩), .int .i64 n]) [(0, ⟨[.slice (some ⟨1, p, none⟩) (xs.length - p) 0], 60, true, 1⟩), (1, ⟨(xs.map i64v), 3, true, 1⟩)] (.int .i64 (xs.getD p 0 % n)) [(0, ⟨[.slice (some ⟨1, (p + 1), none⟩) (xs.length - p - 1) 0], 60, true, 1⟩), (1, ⟨(xs.map i64v), 3, true, 1⟩)] := by
  refine ac_in Try.func26 (fun w0 W pin => ?_)
  refine aw_p 3 (
    .a 1 2 <| .nil _ _) ?_
  refine aw_sq 6 7 ?_
  refine aw_p 13 (
    .a 5 2 <| .p (does_b false ((show ((((xs.length - p) : Nat) : Int) == 0) = false from by rw [beq_eq_false_iff_ne]; omega))) <| .a 2 2 <| .p (does_b false ((show (decide (n < 1)) = false from decide_eq_false (by omega)))) <| .a 1 2 <| .nil _ _) ?_
  refine aw_fl 27 ?_
  refine aw_sk ?_
  refine then_normal ?_
  refine aw_p 15 (
    .a 4 2 <| .p (does_indexSlice (t := 22) (x := .tmp 19) (y := .const (.int .i64 0)) (k := 1) (off := p) (n := (xs.length - p)) (c := 0) (z := 1) (kd := .i64) (j := 0) (by kernel_rfl) (by kernel_rfl) (by kernel_rfl) (by kernel_rfl) (by kernel_rfl) (by omega) (by omega)) <|
    .p (does_load (t := 3) (x := .tmp 20) (k := 1) (off := p + 0 * 1) (b := ⟨(xs.map i64v), 3, true, 1⟩) (v := .int .i64 (xs.getD p 0)) (by kernel_rfl) (by kernel_rfl) (by kernel_rfl) (ldV_map (f := i64v) (j := p) 0 (by kernel_rfl) (by kernel_rfl) hp)) <| .a 1 2 <| .nil _ _) ?_
  refine aw_p 31 (
    .a 5 2 <|
    .p (does_val (v' := .slice (some ⟨1, (p + 1), none⟩) ((xs.length - p) - 1) 0) (does_slice (t := 22) (x := .tmp 26) (lo := some (.const (.int .i64 1))) (hi := none) (k := 1) (off := p) (n := (xs.length - p)) (c := 0) (z := 1) (l := 1) (h := (((xs.length - p) : Nat) : Int)) (m := ((xs.length - p) - 1)) (b := ⟨(xs.map i64v), 3, true, 1⟩) (by kernel_rfl) (by kernel_rfl) (by kernel_rfl) (by kernel_rfl) (by kernel_rfl) (by kernel_rfl) (by kernel_rfl) (by kernel_rfl) (by omega) (by omega) (by omega) (by omega)) (by kernel_rfl)) <|
    .a 3 2 <| .nil _ _) ?_
  refine aw_w [(1, .int .i64 n), (4, .int .i64 0), (5, .int .i64 (xs.getD p 0))] [(0, ⟨[.slice (some ⟨1, (p + 1), none⟩) ((xs.length - p) - 1) 0], 60, true, 1⟩), (1, ⟨(xs.map i64v), 3, true, 1⟩)] ?_ (hc := (by simp [closedB, valsB, valB, flats_map, List.all_eq_true, i64v, flat1]; try decide))
  refine aw_p 63 (
    .a 2 2 <| .p (does_c (below_ok (xs.getD p 0) n (by omega) (by omega))) <| .a 1 2 <| .nil _ _) ?_
  refine aw_rt ?_
  exact en_ret [.int .i64 ((xs.getD p 0) % n)] (show (.int .i64 ((xs.getD p 0) % n) : Value) = (.int .i64 (xs.getD p 0 % n)) from (congrArg (Value.int .i64) (show ((xs.getD p 0) % n) = (xs.getD p 0 % n) from by rfl)))
theorem next0_own (xs : List Int) (p : Nat) (n : Int) (hp : ¬ p < xs.length) :
    AC Try.prog 26 2 ([.pointer (some ⟨0, 0, none⟩), .int .i64 n]) [(0, ⟨[.slice (some ⟨1, p, none⟩) (xs.length - p) 0], 60, true, 1⟩), (1, ⟨(xs.map i64v), 3, true, 1⟩)] (.int .i64 0) [(0, ⟨[.slice (some ⟨1, p, none⟩) (xs.length - p) 0], 60, true, 1⟩), (1, ⟨(xs.map i64v), 3, true, 1⟩)] := by
  refine ac_in Try.func26 (fun w0 W pin => ?_)
  refine aw_p 3 (
    .a 1 2 <| .nil _ _) ?_
  refine aw_sq 6 7 ?_
  refine aw_p 13 (
    .a 5 2 <| .p (does_b true ((show ((((xs.length - p) : Nat) : Int) == 0) = true from by rw [beq_iff_eq]; omega))) <| .a 4 2 <| .nil _ _) ?_
  refine aw_tr 26 ?_
  refine aw_p 53 (
    .a 1 2 <| .nil _ _) ?_
  refine aw_rt ?_
  refine then_ret ?_
  exact en_ret [.int .i64 0] (by kernel_rfl)
theorem next_ro (xs : List Int) (p : Nat) (n : Int) (hp : p < xs.length) (h0 : 0 < n) (hz : n ≤ 9223372036854775807) :
    AC Try.prog 26 2 ([.pointer (some ⟨0, 0, none⟩), .int .i64 n]) [(0, ⟨[.slice (some ⟨1, p, none⟩) (xs.length - p) 0], 60, true, 1⟩), (1, ⟨(xs.map i64v), 3, false, 1⟩)] (.int .i64 (xs.getD p 0 % n)) [(0, ⟨[.slice (some ⟨1, (p + 1), none⟩) (xs.length - p - 1) 0], 60, true, 1⟩)] := by
  refine ac_in Try.func26 (fun w0 W pin => ?_)
  refine aw_p 3 (
    .a 1 2 <| .nil _ _) ?_
  refine aw_sq 6 7 ?_
  refine aw_p 13 (
    .a 5 2 <| .p (does_b false ((show ((((xs.length - p) : Nat) : Int) == 0) = false from by rw [beq_eq_false_iff_ne]; omega))) <| .a 2 2 <| .p (does_b false ((show (decide (n < 1)) = false from decide_eq_false (by omega)))) <| .a 1 2 <| .nil _ _) ?_
  refine aw_fl 27 ?_
  refine aw_sk ?_
  refine then_normal ?_
  refine aw_p 15 (
    .a 4 2 <| .p (does_indexSlice (t := 22) (x := .tmp 19) (y := .const (.int .i64 0)) (k := 1) (off := p) (n := (xs.length - p)) (c := 0) (z := 1) (kd := .i64) (j := 0) (by kernel_rfl) (by kernel_rfl) (by kernel_rfl) (by kernel_rfl) (by kernel_rfl) (by omega) (by omega)) <|
    .p (does_load (t := 3) (x := .tmp 20) (k := 1) (off := p + 0 * 1) (b := ⟨(xs.map i64v), 3, false, 1⟩) (v := .int .i64 (xs.getD p 0)) (by kernel_rfl) (by kernel_rfl) (by kernel_rfl) (ldV_map (f := i64v) (j := p) 0 (by kernel_rfl) (by kernel_rfl) hp)) <| .a 1 2 <| .nil _ _) ?_
  refine aw_p 31 (
    .a 5 2 <|
    .p (does_val (v' := .slice (some ⟨1, (p + 1), none⟩) ((xs.length - p) - 1) 0) (does_slice (t := 22) (x := .tmp 26) (lo := some (.const (.int .i64 1))) (hi := none) (k := 1) (off := p) (n := (xs.length - p)) (c := 0) (z := 1) (l := 1) (h := (((xs.length - p) : Nat) : Int)) (m := ((xs.length - p) - 1)) (b := ⟨(xs.map i64v), 3, false, 1⟩) (by kernel_rfl) (by kernel_rfl) (by kernel_rfl) (by kernel_rfl) (by kernel_rfl) (by kernel_rfl) (by kernel_rfl) (by kernel_rfl) (by omega) (by omega) (by omega) (by omega)) (by kernel_rfl)) <|
    .a 3 2 <| .nil _ _) ?_
  refine aw_w [(1, .int .i64 n), (4, .int .i64 0), (5, .int .i64 (xs.getD p 0))] [(0, ⟨[.slice (some ⟨1, (p + 1), none⟩) ((xs.length - p) - 1) 0], 60, true, 1⟩), (1, ⟨(xs.map i64v), 3, false, 1⟩)] ?_ (hc := (by simp [closedB, valsB, valB, flats_map, List.all_eq_true, i64v, flat1]; try decide))
  refine aw_p 63 (
    .a 2 2 <| .p (does_c (below_ok (xs.getD p 0) n (by omega) (by omega))) <| .a 1 2 <| .nil _ _) ?_
  refine aw_rt ?_
  exact en_ret [.int .i64 ((xs.getD p 0) % n)] (show (.int .i64 ((xs.getD p 0) % n) : Value) = (.int .i64 (xs.getD p 0 % n)) from (congrArg (Value.int .i64) (show ((xs.getD p 0) % n) = (xs.getD p 0 % n) from by rfl)))
theorem next0_ro (xs : List Int) (p : Nat) (n : Int) (hp : ¬ p < xs.length) :
    AC Try.prog 26 2 ([.pointer (some ⟨0, 0, none⟩), .int .i64 n]) [(0, ⟨[.slice (some ⟨1, p, none⟩) (xs.length - p) 0], 60, true, 1⟩), (1, ⟨(xs.map i64v), 3, false, 1⟩)] (.int .i64 0) [(0, ⟨[.slice (some ⟨1, p, none⟩) (xs.length - p) 0], 60, true, 1⟩)] := by
  refine ac_in Try.func26 (fun w0 W pin => ?_)
  refine aw_p 3 (
    .a 1 2 <| .nil _ _) ?_
  refine aw_sq 6 7 ?_
  refine aw_p 13 (
    .a 5 2 <| .p (does_b true ((show ((((xs.length - p) : Nat) : Int) == 0) = true from by rw [beq_iff_eq]; omega))) <| .a 4 2 <| .nil _ _) ?_
  refine aw_tr 26 ?_
  refine aw_p 53 (
    .a 1 2 <| .nil _ _) ?_
  refine aw_rt ?_
  refine then_ret ?_
  exact en_ret [.int .i64 0] (by kernel_rfl)
theorem spoint_ok (x y : Int) :
    AC Try.prog 55 2 ([.pointer (some ⟨0, 0, none⟩)]) [(0, ⟨[.slice (some ⟨1, 0, none⟩) 2 0], 60, true, 1⟩), (1, ⟨[.int .i64 x, .int .i64 y], 3, true, 1⟩)] (.agg #[.int .i64 (x % 81 - 40), .int .i64 (y % 81 - 40)]) [(0, ⟨[.slice (some ⟨1, 2, none⟩) 0 0], 60, true, 1⟩), (1, ⟨[.int .i64 x, .int .i64 y], 3, true, 1⟩)] := by
  have q1 := Sp.emod_bd x (n := 81) (by decide); have q2 := Sp.emod_bd y (n := 81) (by decide)
  refine ac_in Try.func55 (fun w0 W pin => ?_)
  refine aw_p 3 (
    .a 1 2 <| .nil _ _) ?_
  refine aw_p 7 (
    .a 1 3 <|
    .p (does_callB (x := .func 26) (ars := #[.tmp 3, .const (.int .i64 81)]) (ats := #[58, 3]) (g := 26) (vs := [.pointer (some ⟨0, 0, none⟩), .int .i64 81]) (m := 2) (r := 0) (firsts := #[]) (caps := #[]) (args0 := [.pointer (some ⟨0, 0, none⟩), .int .i64 81]) (pre0 := [(0, ⟨[.slice (some ⟨1, 0, none⟩) (([x, y]).length - 0) 0], 60, true, 1⟩), (1, ⟨(([x, y]).map i64v), 3, true, 1⟩)]) (post0 := [(0, ⟨[.slice (some ⟨1, (0 + 1), none⟩) (([x, y]).length - 0 - 1) 0], 60, true, 1⟩), (1, ⟨(([x, y]).map i64v), 3, true, 1⟩)]) (pre := [(0, ⟨[.slice (some ⟨1, 0, none⟩) 2 0], 60, true, 1⟩), (1, ⟨[.int .i64 x, .int .i64 y], 3, true, 1⟩)]) (post := [(0, ⟨[.slice (some ⟨1, 1, none⟩) 1 0], 60, true, 1⟩), (1, ⟨[.int .i64 x, .int .i64 y], 3, true, 1⟩)]) (v0 := .int .i64 (([x, y]).getD 0 0 % 81)) (v := .int .i64 (x % 81)) [0, 1] (by kernel_rfl) (by kernel_rfl) (by kernel_rfl) (by kernel_rfl) (next_own ([x, y]) 0 81 (by simp) (by decide) (by decide)) (.cons (.ptr _ _ (by decide)) (.cons (.flatB (by kernel_rfl)) .nil)) ⟨rfl, ⟨rfl, rfl, rfl, (.cons (.slice _ _ _ _ _ (by decide)) .nil)⟩, rfl, ⟨rfl, rfl, rfl, (.flats (flats_map (fun _ => rfl) _))⟩, trivial⟩ (by kernel_rfl) (by kernel_rfl) (by kernel_rfl) ⟨rfl, ⟨rfl, rfl, rfl, (.cons (.slice _ _ _ _ _ (by decide)) .nil)⟩, rfl, ⟨rfl, rfl, rfl, (.flats (flats_map (fun _ => rfl) _))⟩, trivial⟩ (.flatB (by kernel_rfl))) <|
    .p (does_i ((x % 81) - 40) (wrap_i64 (by omega) (by omega)) .i64) <| .a 1 3 <|
    .p (does_callB (x := .func 26) (ars := #[.tmp 6, .const (.int .i64 81)]) (ats := #[58, 3]) (g := 26) (vs := [.pointer (some ⟨0, 0, none⟩), .int .i64 81]) (m := 2) (r := 0) (firsts := #[]) (caps := #[]) (args0 := [.pointer (some ⟨0, 0, none⟩), .int .i64 81]) (pre0 := [(0, ⟨[.slice (some ⟨1, 1, none⟩) (([x, y]).length - 1) 0], 60, true, 1⟩), (1, ⟨(([x, y]).map i64v), 3, true, 1⟩)]) (post0 := [(0, ⟨[.slice (some ⟨1, (1 + 1), none⟩) (([x, y]).length - 1 - 1) 0], 60, true, 1⟩), (1, ⟨(([x, y]).map i64v), 3, true, 1⟩)]) (pre := [(0, ⟨[.slice (some ⟨1, 1, none⟩) 1 0], 60, true, 1⟩), (1, ⟨[.int .i64 x, .int .i64 y], 3, true, 1⟩)]) (post := [(0, ⟨[.slice (some ⟨1, 2, none⟩) 0 0], 60, true, 1⟩), (1, ⟨[.int .i64 x, .int .i64 y], 3, true, 1⟩)]) (v0 := .int .i64 (([x, y]).getD 1 0 % 81)) (v := .int .i64 (y % 81)) [0, 1] (by kernel_rfl) (by kernel_rfl) (by kernel_rfl) (by kernel_rfl) (next_own ([x, y]) 1 81 (by simp) (by decide) (by decide)) (.cons (.ptr _ _ (by decide)) (.cons (.flatB (by kernel_rfl)) .nil)) ⟨rfl, ⟨rfl, rfl, rfl, (.cons (.slice _ _ _ _ _ (by decide)) .nil)⟩, rfl, ⟨rfl, rfl, rfl, (.flats (flats_map (fun _ => rfl) _))⟩, trivial⟩ (by kernel_rfl) (by kernel_rfl) (by kernel_rfl) ⟨rfl, ⟨rfl, rfl, rfl, (.cons (.slice _ _ _ _ _ (by decide)) .nil)⟩, rfl, ⟨rfl, rfl, rfl, (.flats (flats_map (fun _ => rfl) _))⟩, trivial⟩ (.flatB (by kernel_rfl))) <|
    .p (does_i ((y % 81) - 40) (wrap_i64 (by omega) (by omega)) .i64) <| .a 2 3 <| .nil _ _) ?_
  refine aw_rt ?_
  exact en_ret [.agg #[.int .i64 ((x % 81) - 40), .int .i64 ((y % 81) - 40)]] (show (.agg #[.int .i64 ((x % 81) - 40), .int .i64 ((y % 81) - 40)] : Value) = (.agg #[.int .i64 (x % 81 - 40), .int .i64 (y % 81 - 40)]) from (congrArg (fun z : List Value => Value.agg z.toArray) (lcons (congrArg (Value.int .i64) (show ((x % 81) - 40) = (x % 81 - 40) from by rfl)) (lcons (congrArg (Value.int .i64) (show ((y % 81) - 40) = (y % 81 - 40) from by rfl)) rfl))))
theorem mpoint_ok (x y : Int) :
    AC Try.prog 27 1 ([.slice (some ⟨0, 0, none⟩) 2 0]) [(0, ⟨[.int .i64 x, .int .i64 y], 3, true, 1⟩)] (.agg #[.int .i64 (x % 81 - 40), .int .i64 (y % 81 - 40)]) [(0, ⟨[.int .i64 x, .int .i64 y], 3, true, 1⟩)] := by
  refine ac_in Try.func27 (fun w0 W pin => ?_)
  refine aw_p 3 (
    .a 1 1 <| .nil _ _) ?_
  refine aw_p 7 (
    .a 3 2 <| .p (does_k [2, 0] (spoint_ok x y)) <| .a 1 3 <| .nil _ _) ?_
  refine aw_rt ?_
  exact en_ret [.agg #[.int .i64 (x % 81 - 40), .int .i64 (y % 81 - 40)]] (by kernel_rfl)
theorem turn_in (ax ay bx b_y cx cy : Int) (axl : -1048576 ≤ ax) (axu : ax ≤ 1048576) (ayl : -1048576 ≤ ay) (ayu : ay ≤ 1048576) (bxl : -1048576 ≤ bx) (bxu : bx ≤ 1048576) (b_yl : -1048576 ≤ b_y) (b_yu : b_y ≤ 1048576) (cxl : -1048576 ≤ cx) (cxu : cx ≤ 1048576) (cyl : -1048576 ≤ cy) (cyu : cy ≤ 1048576) : AC Try.prog 30 0 [.agg #[.int .i64 ax, .int .i64 ay], .agg #[.int .i64 bx, .int .i64 b_y], .agg #[.int .i64 cx, .int .i64 cy]] [] (.int .i64 (Sp.cmp (Sp.crs ax ay bx b_y cx cy) 0)) [] := by
  have h := turn_ok ax ay bx b_y cx cy
  simp only [Sp.lim_id axl axu, Sp.lim_id ayl ayu, Sp.lim_id bxl bxu, Sp.lim_id b_yl b_yu, Sp.lim_id cxl cxu, Sp.lim_id cyl cyu] at h
  exact h
theorem on_in (ax ay bx b_y cx cy : Int) (axl : -1048576 ≤ ax) (axu : ax ≤ 1048576) (ayl : -1048576 ≤ ay) (ayu : ay ≤ 1048576) (bxl : -1048576 ≤ bx) (bxu : bx ≤ 1048576) (b_yl : -1048576 ≤ b_y) (b_yu : b_y ≤ 1048576) (cxl : -1048576 ≤ cx) (cxu : cx ≤ 1048576) (cyl : -1048576 ≤ cy) (cyu : cy ≤ 1048576) : AC Try.prog 29 0 [.agg #[.int .i64 ax, .int .i64 ay], .agg #[.int .i64 bx, .int .i64 b_y], .agg #[.int .i64 cx, .int .i64 cy]] [] (.bool (Sp.onb ax ay bx b_y cx cy)) [] := by
  have h := on_ok ax ay bx b_y cx cy
  simp only [Sp.lim_id axl axu, Sp.lim_id ayl ayu, Sp.lim_id bxl bxu, Sp.lim_id b_yl b_yu, Sp.lim_id cxl cxu, Sp.lim_id cyl cyu] at h
  exact h
end Go.Proofs.Ytomnkdlfmjdckaa.Am

set_option linter.unusedVariables false
set_option linter.unusedSimpArgs false
namespace Go.Proofs.Ytomnkdlfmjdckaa.Am.Sp
theorem addb_on {l px py qx qy rx ry} (h : addb l px py qx qy rx ry = true) : onb qx qy rx ry px py = true := by
  unfold addb at h; rw [Bool.and_eq_true] at h; exact h.1
theorem addb_no {l px py qx qy rx ry} (h : addb l px py qx qy rx ry = true) : has2 l px py = false := by
  unfold addb at h; rw [Bool.and_eq_true] at h; simpa using h.2
theorem has2_mem {l : List (Int × Int)} {x y px py : Int} (hm : (x, y) ∈ l) (h : has2 l px py = false) : ((x == px) && ((y == py) && true)) = false := by
  unfold has2 at h
  rw [List.any_eq_false] at h
  have := h _ hm
  simpa using this
theorem cmp3 (ax ay bx b_y cx cy dx dy : Int) : (-1 ≤ cmp (crs ax ay bx b_y cx cy) 0 * cmp (crs ax ay bx b_y dx dy) 0 ∧ cmp (crs ax ay bx b_y cx cy) 0 * cmp (crs ax ay bx b_y dx dy) 0 ≤ 1) ∧
    (-1 ≤ cmp (crs cx cy dx dy ax ay) 0 * cmp (crs cx cy dx dy bx b_y) 0 ∧ cmp (crs cx cy dx dy ax ay) 0 * cmp (crs cx cy dx dy bx b_y) 0 ≤ 1) := by
  have a := cmp_bd (crs ax ay bx b_y cx cy) 0
  have b := cmp_bd (crs ax ay bx b_y dx dy) 0
  have c := cmp_bd (crs cx cy dx dy ax ay) 0
  have d := cmp_bd (crs cx cy dx dy bx b_y) 0
  have p := mul_bd a.1 a.2 b.1 b.2
  have q := mul_bd c.1 c.2 d.1 d.2
  omega
theorem prp_swap (ax ay bx b_y cx cy dx dy : Int) : prp cx cy dx dy ax ay bx b_y = prp ax ay bx b_y cx cy dx dy := by
  rw [Bool.eq_iff_iff, prp_iff, prp_iff]; constructor <;> rintro ⟨h1, h2⟩ <;> exact ⟨h2, h1⟩
theorem prp_flip (ax ay bx b_y cx cy dx dy : Int) : prp bx b_y ax ay cx cy dx dy = prp ax ay bx b_y cx cy dx dy := by
  rw [Bool.eq_iff_iff, prp_iff, prp_iff, crs_anti bx b_y ax ay cx cy, crs_anti bx b_y ax ay dx dy, Int.zero_sub, Int.zero_sub, Int.neg_mul_neg, Int.mul_comm (crs cx cy dx dy bx b_y)]
theorem shr_swap (ax ay bx b_y cx cy dx dy : Int) (z : Int × Int) : z ∈ shr cx cy dx dy ax ay bx b_y ↔ z ∈ shr ax ay bx b_y cx cy dx dy := by
  rw [mem_shr, mem_shr]; constructor <;> (rintro (h | h | h | h) <;> simp [h])
theorem shr_flip (ax ay bx b_y cx cy dx dy : Int) (z : Int × Int) : z ∈ shr bx b_y ax ay cx cy dx dy ↔ z ∈ shr ax ay bx b_y cx cy dx dy := by
  rw [mem_shr, mem_shr, onb_comm bx b_y ax ay cx cy, onb_comm bx b_y ax ay dx dy]; constructor <;> (rintro (h | h | h | h) <;> simp [h])
theorem len_same {l m : List (Int × Int)} (h1 : l.Nodup) (h2 : m.Nodup) (h : ∀ z, z ∈ l ↔ z ∈ m) : l.length = m.length :=
  ((List.perm_ext_iff_of_nodup h1 h2).2 h).length_eq
theorem meetN_swap (ax ay bx b_y cx cy dx dy : Int) : meetN cx cy dx dy ax ay bx b_y = meetN ax ay bx b_y cx cy dx dy := by
  unfold meetN; rw [prp_swap, len_same (nodup_shr ..) (nodup_shr ..) (shr_swap ax ay bx b_y cx cy dx dy)]
theorem meetN_flip (ax ay bx b_y cx cy dx dy : Int) : meetN bx b_y ax ay cx cy dx dy = meetN ax ay bx b_y cx cy dx dy := by
  unfold meetN; rw [prp_flip, len_same (nodup_shr ..) (nodup_shr ..) (shr_flip ax ay bx b_y cx cy dx dy)]
end Go.Proofs.Ytomnkdlfmjdckaa.Am.Sp
