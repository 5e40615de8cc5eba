import Derived.Test.YtigllakcfdoagaaSp5
namespace Go.Proofs.Ytigllakcfdoagaa.Am.Sp
/-! Boxes -/
def mn (a b : Int) : Int := if b < a then b else a
def mx (a b : Int) : Int := if b > a then b else a
def inbox (lx ly hx hy px py : Int) : Bool := decide (lx ≤ px) && (decide (px ≤ hx) && (decide (ly ≤ py) && decide (py ≤ hy)))
def bok (lx ly hx hy : Int) : Bool := okb lx ly && (okb hx hy && (decide (lx ≤ hx) && decide (ly ≤ hy)))
theorem bok_valid (lx ly hx hy : Int) : (okb lx ly && (okb hx hy && (inbox lx ly hx hy lx ly && inbox lx ly hx hy hx hy))) = bok lx ly hx hy := by
  unfold bok inbox
  by_cases h1 : lx ≤ hx <;> by_cases h2 : ly ≤ hy <;> simp [h1, h2]
def meet (a b c d e f g h : Int) : Bool := inbox a b c d (mx a e) (mx b f) && inbox e f g h (mx a e) (mx b f)
theorem meet_eq (a b c d e f g h : Int) : meet a b c d e f g h = (decide (mx a e ≤ mn c g) && decide (mx b f ≤ mn d h)) := by
  unfold meet inbox mx mn
  rw [Bool.eq_iff_iff]
  simp only [Bool.and_eq_true, decide_eq_true_eq]
  (repeat' split) <;> omega
/-- the box of the first points of a list -/
def bxo (ps : List (Int × Int)) : Nat → Int × Int × Int × Int
  | 0 => (0, 0, 0, 0)
  | i + 1 =>
    let x := lim 1048576 (ps.getD i (0, 0)).1
    let y := lim 1048576 (ps.getD i (0, 0)).2
    let b := if i = 0 then (x, y, x, y) else bxo ps i
    (mn b.1 x, mn b.2.1 y, mx b.2.2.1 x, mx b.2.2.2 y)
theorem bxo_first {ps : List (Int × Int)} {i : Nat} (h : i = 0) : bxo ps (i + 1) = (mn (lim 1048576 (ps.getD i (0, 0)).1) (lim 1048576 (ps.getD i (0, 0)).1), mn (lim 1048576 (ps.getD i (0, 0)).2) (lim 1048576 (ps.getD i (0, 0)).2), mx (lim 1048576 (ps.getD i (0, 0)).1) (lim 1048576 (ps.getD i (0, 0)).1), mx (lim 1048576 (ps.getD i (0, 0)).2) (lim 1048576 (ps.getD i (0, 0)).2)) := by
  subst h; rfl
theorem bxo_next {ps : List (Int × Int)} {i : Nat} (h : ¬ i = 0) : bxo ps (i + 1) = (mn (bxo ps i).1 (lim 1048576 (ps.getD i (0, 0)).1), mn (bxo ps i).2.1 (lim 1048576 (ps.getD i (0, 0)).2), mx (bxo ps i).2.2.1 (lim 1048576 (ps.getD i (0, 0)).1), mx (bxo ps i).2.2.2 (lim 1048576 (ps.getD i (0, 0)).2)) := by
  simp only [bxo, if_neg h]
end Go.Proofs.Ytigllakcfdoagaa.Am.Sp
