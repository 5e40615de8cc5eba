import Derived.Test.YtndkhgfecnbmnaaSq6
set_option linter.unusedVariables false
set_option linter.unusedSimpArgs false
namespace Go.Proofs.Ytndkhgfecnbmnaa.Am.Sp
/-! Boxes: more -/
theorem mn_self (a : Int) : mn a a = a := by unfold mn; split <;> rfl
theorem mx_self (a : Int) : mx a a = a := by unfold mx; split <;> rfl
theorem sgn_bd (a : Int) : -1 ≤ sgn a ∧ sgn a ≤ 1 := by unfold sgn; (repeat' split) <;> omega
theorem bxo2 (ax ay cx cy : Int) : bxo [(ax, ay), (cx, cy)] [(ax, ay), (cx, cy)].length = (mn (lim 1048576 ax) (lim 1048576 cx), mn (lim 1048576 ay) (lim 1048576 cy), mx (lim 1048576 ax) (lim 1048576 cx), mx (lim 1048576 ay) (lim 1048576 cy)) := by
  show bxo [(ax, ay), (cx, cy)] (1 + 1) = _
  rw [bxo_next (by decide), show bxo [(ax, ay), (cx, cy)] 1 = _ from bxo_first rfl]
  simp only [mn_self, mx_self]
  rfl
theorem okb_bd {x y : Int} (h : okb x y = true) : (-1048576 ≤ x ∧ x ≤ 1048576) ∧ (-1048576 ≤ y ∧ y ≤ 1048576) := by
  unfold okb at h
  simp only [Bool.and_true, Bool.and_eq_true, beq_iff_eq] at h
  have a := lim_bd (m := 1048576) (by decide) x
  have b := lim_bd (m := 1048576) (by decide) y
  omega
theorem bok_bd {lx ly hx hy : Int} (h : bok lx ly hx hy = true) : ((-1048576 ≤ lx ∧ lx ≤ 1048576) ∧ (-1048576 ≤ ly ∧ ly ≤ 1048576)) ∧ ((-1048576 ≤ hx ∧ hx ≤ 1048576) ∧ (-1048576 ≤ hy ∧ hy ≤ 1048576)) ∧ (lx ≤ hx ∧ ly ≤ hy) := by
  unfold bok at h
  simp only [Bool.and_eq_true, decide_eq_true_eq] at h
  obtain ⟨h1, h2, h3, h4⟩ := h
  exact ⟨okb_bd h1, okb_bd h2, h3, h4⟩
def gapq (l h a : Int) : Int := mx l (mn a h)
def gapN (lx ly hx hy ax ay : Int) : Int := dot ax ay (gapq lx hx ax) (gapq ly hy ay) (gapq lx hx ax) (gapq ly hy ay)
theorem gapq_bd {l h a : Int} (h0 : -1048576 ≤ l) (h1 : l ≤ 1048576) (h2 : -1048576 ≤ h) (h3 : h ≤ 1048576) (h4 : -1048576 ≤ a) (h5 : a ≤ 1048576) : -1048576 ≤ gapq l h a ∧ gapq l h a ≤ 1048576 := by
  unfold gapq mx mn; (repeat' split) <;> omega
theorem gap1 {l h a : Int} (hl : l ≤ h) : (gapq l h a - a) * (gapq l h a - a) = mx (mx (l - a) (a - h)) 0 * mx (mx (l - a) (a - h)) 0 := by
  have e : gapq l h a - a = mx (mx (l - a) (a - h)) 0 ∨ gapq l h a - a = - mx (mx (l - a) (a - h)) 0 := by
    unfold gapq mx mn; (repeat' split) <;> omega
  rcases e with e | e <;> rw [e]
  rw [Int.neg_mul_neg]
theorem gap_eq {lx ly hx hy : Int} (hX : lx ≤ hx) (hY : ly ≤ hy) (ax ay : Int) : gapN lx ly hx hy ax ay = mx (mx (lx - ax) (ax - hx)) 0 * mx (mx (lx - ax) (ax - hx)) 0 + mx (mx (ly - ay) (ay - hy)) 0 * mx (mx (ly - ay) (ay - hy)) 0 := by
  unfold gapN dot; rw [gap1 hX, gap1 hY]
theorem side_bd {l h a : Int} (h0 : -1048576 ≤ l) (h1 : l ≤ 1048576) (h2 : -1048576 ≤ h) (h3 : h ≤ 1048576) (h4 : -1048576 ≤ a) (h5 : a ≤ 1048576) : (0 ≤ mx (mx (l - a) (a - h)) 0 ∧ mx (mx (l - a) (a - h)) 0 ≤ 2097152) ∧ (0 ≤ mx (mx (l - a) (a - h)) 0 * mx (mx (l - a) (a - h)) 0 ∧ mx (mx (l - a) (a - h)) 0 * mx (mx (l - a) (a - h)) 0 ≤ 4398046511104) := by
  have hh : 0 ≤ mx (mx (l - a) (a - h)) 0 ∧ mx (mx (l - a) (a - h)) 0 ≤ 2097152 := by unfold mx; (repeat' split) <;> omega
  have := mul_bd (a := mx (mx (l - a) (a - h)) 0) (b := mx (mx (l - a) (a - h)) 0) (A := 2097152) (B := 2097152) (by omega) (by omega) (by omega) (by omega)
  have := sqr_nonneg (mx (mx (l - a) (a - h)) 0)
  omega
end Go.Proofs.Ytndkhgfecnbmnaa.Am.Sp

