import Derived.Test.YtndkhgfecnbmnaaBs1
import Derived.Test.YtndkhgfecnbmnaaSq7
set_option linter.unusedVariables false
set_option linter.unusedSimpArgs false
namespace Go.Proofs.Ytndkhgfecnbmnaa.Am.Sp
/-! Boxes and segments: what a hit is -/
theorem mn_comm' (a b : Int) : mn a b = mn b a := by unfold mn; (repeat' split) <;> omega
theorem mx_comm' (a b : Int) : mx a b = mx b a := by unfold mx; (repeat' split) <;> omega
theorem hit_sym (lx ly hx hy px py qx qy : Int) : hitb lx ly hx hy qx qy px py = hitb lx ly hx hy px py qx qy := by
  rw [Bool.eq_iff_iff]
  unfold hitb
  simp only [Bool.and_eq_true, Bool.or_eq_true, decide_eq_true_eq, cmp_ge0, cmp_le0]
  rw [mn_comm' qx px, mn_comm' qy py, mx_comm' qx px, mx_comm' qy py]
  have e : ∀ x y, crs qx qy px py x y = - crs px py qx qy x y := by intro x y; unfold crs; grind
  simp only [e]
  constructor
  · rintro ⟨a, b, c⟩; exact ⟨a, by omega, by omega⟩
  · rintro ⟨a, b, c⟩; exact ⟨a, by omega, by omega⟩
theorem hit_self {lx ly hx hy : Int} (hX : lx ≤ hx) (hY : ly ≤ hy) (px py : Int) : hitb lx ly hx hy px py px py = inbox lx ly hx hy px py := by
  rw [Bool.eq_iff_iff]
  unfold hitb
  have e : ∀ x y, crs px py px py x y = 0 := by intro x y; unfold crs; grind
  rw [meet_eq, mn_self', mn_self', mx_self', mx_self', inbox_iff']
  simp only [Bool.and_eq_true, Bool.or_eq_true, decide_eq_true_eq, cmp_ge0, cmp_le0, e]
  constructor
  · rintro ⟨a, _⟩; unfold mx mn at a; (repeat' split at a) <;> omega
  · intro a; refine ⟨?_, by omega, by omega⟩; unfold mx mn; (repeat' split) <;> omega
theorem gap_zero {lx ly hx hy : Int} (hX : lx ≤ hx) (hY : ly ≤ hy) (px py : Int) : (gapN lx ly hx hy px py == 0) = inbox lx ly hx hy px py := by
  rw [Bool.eq_iff_iff, beq_iff_eq, gap_eq hX hY, inbox_iff']
  generalize ha : mx (mx (lx - px) (px - hx)) 0 = a
  generalize hb : mx (mx (ly - py) (py - hy)) 0 = b
  have a0 : 0 ≤ a := by rw [← ha]; unfold mx; (repeat' split) <;> omega
  have b0 : 0 ≤ b := by rw [← hb]; unfold mx; (repeat' split) <;> omega
  have az : a = 0 ↔ lx ≤ px ∧ px ≤ hx := by rw [← ha]; unfold mx; (repeat' split) <;> omega
  have bz : b = 0 ↔ ly ≤ py ∧ py ≤ hy := by rw [← hb]; unfold mx; (repeat' split) <;> omega
  rw [← az, ← bz]
  have sa := Int.mul_nonneg a0 a0
  have sb := Int.mul_nonneg b0 b0
  constructor
  · intro h
    have h1 : a * a = 0 := by omega
    have h2 : b * b = 0 := by omega
    exact ⟨(Int.mul_eq_zero.1 h1).elim id id, (Int.mul_eq_zero.1 h2).elim id id⟩
  · rintro ⟨rfl, rfl⟩; rfl
theorem hit_has {lx ly hx hy : Int} (hX : lx ≤ hx) (hY : ly ≤ hy) {px py qx qy : Int} (h : inbox lx ly hx hy px py = true ∨ inbox lx ly hx hy qx qy = true) : hitb lx ly hx hy px py qx qy = true := by
  rw [hit_eq hX hY]
  unfold refb
  rcases h with h | h <;> simp [h]
theorem hit_meet {lx ly hx hy px py qx qy : Int} (h : hitb lx ly hx hy px py qx qy = true) : meet lx ly hx hy (mn px qx) (mn py qy) (mx px qx) (mx py qy) = true := by
  unfold hitb at h
  rw [Bool.and_eq_true] at h
  exact h.1
theorem sq_le {a d : Int} (h0 : 0 ≤ a) (h1 : a ≤ d ∨ a ≤ -d) : a * a ≤ d * d := by
  rcases h1 with h | h
  · exact Int.mul_le_mul h h h0 (by omega)
  · have := Int.mul_le_mul h h h0 (by omega : (0:Int) ≤ -d)
    rwa [Int.neg_mul_neg] at this
theorem gap_1d {l h p q : Int} (m : mx l (mn p q) ≤ mn h (mx p q)) : mx (mx (l - p) (p - h)) 0 ≤ q - p ∨ mx (mx (l - p) (p - h)) 0 ≤ -(q - p) := by
  have l1 : l ≤ p ∨ l ≤ q := by
    have a : l ≤ mx l (mn p q) := by unfold mx; split <;> omega
    have b : mn h (mx p q) ≤ mx p q := by unfold mn; split <;> omega
    have c : mx p q = p ∨ mx p q = q := by unfold mx; split <;> simp
    omega
  have l2 : p ≤ h ∨ q ≤ h := by
    have a : mn p q ≤ mx l (mn p q) := by unfold mx; split <;> omega
    have b : mn h (mx p q) ≤ h := by unfold mn; split <;> omega
    have c : mn p q = p ∨ mn p q = q := by unfold mn; split <;> simp
    omega
  have c : mx (mx (l - p) (p - h)) 0 = l - p ∨ mx (mx (l - p) (p - h)) 0 = p - h ∨ mx (mx (l - p) (p - h)) 0 = 0 := by
    unfold mx; (repeat' split) <;> simp
  omega
theorem mx0 (x : Int) : 0 ≤ mx x 0 := by unfold mx; split <;> omega
theorem hit_gap {lx ly hx hy px py qx qy : Int} (hX : lx ≤ hx) (hY : ly ≤ hy) (h : hitb lx ly hx hy px py qx qy = true) : gapN lx ly hx hy px py ≤ dot px py qx qy qx qy := by
  have m := hit_meet h
  rw [meet_eq, Bool.and_eq_true, decide_eq_true_eq, decide_eq_true_eq] at m
  rw [gap_eq hX hY]
  unfold dot
  have A := sq_le (mx0 _) (gap_1d m.1)
  have B := sq_le (mx0 _) (gap_1d m.2)
  omega
end Go.Proofs.Ytndkhgfecnbmnaa.Am.Sp

