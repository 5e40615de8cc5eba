import Derived.Test.YtndkhgfecnbmnaaBs2
import Derived.Test.YtndkhgfecnbmnaaSp6
set_option linter.unusedVariables false
set_option linter.unusedSimpArgs false
namespace Go.Proofs.Ytndkhgfecnbmnaa.Am.Sp
/-! Squares of the curve as boxes -/
theorem cell_bd {a w : Int} (hw : 0 < w) (ha : 0 ≤ a) : (a / w * w ≤ a ∧ a < a / w * w + w) ∧ 0 ≤ a / w * w := by
  have h := Int.emod_add_mul_ediv a w
  have h1 := Int.emod_nonneg a (show w ≠ 0 by omega)
  have h2 := Int.emod_lt_of_pos a hw
  rw [Int.mul_comm] at h
  have h3 := Int.mul_nonneg (Int.ediv_nonneg ha (show 0 ≤ w by omega)) (show 0 ≤ w by omega)
  omega
theorem cell_eq {a c w : Int} (hw : 0 < w) : a / w = c / w ↔ (a / w * w ≤ c ∧ c < a / w * w + w) := by
  have h := Int.emod_add_mul_ediv c w
  have h1 := Int.emod_nonneg c (show w ≠ 0 by omega)
  have h2 := Int.emod_lt_of_pos c hw
  rw [Int.mul_comm] at h
  constructor
  · intro e; rw [e]; omega
  · rintro ⟨p, q⟩
    have l1 : a / w < c / w + 1 := Int.lt_of_mul_lt_mul_right (a := w) (by rw [Int.add_mul]; omega) (by omega)
    have l2 : c / w < a / w + 1 := Int.lt_of_mul_lt_mul_right (a := w) (by rw [Int.add_mul]; omega) (by omega)
    omega
theorem pw8 {m : Nat} (hm : m < 8) : 0 < pw m ∧ pw m ≤ 128 := by
  have e : pw 7 = 128 := by decide
  have := pw_mono (show m ≤ 7 by omega)
  exact ⟨pw_pos m, by omega⟩
/-- the square of p has q exactly if both places are in one stretch -/
theorem cell_has {a b c d lx ly hx hy : Int} {m : Nat} (hm : m < 8) (h : (-40 ≤ a ∧ a ≤ 40) ∧ (-40 ≤ b ∧ b ≤ 40) ∧ (-40 ≤ c ∧ c ≤ 40) ∧ (-40 ≤ d ∧ d ≤ 40)) (e1 : lx = (a + 1048576) / pw m * pw m - 1048576) (e2 : ly = (b + 1048576) / pw m * pw m - 1048576)
    (e3 : hx = lx + pw m - 1) (e4 : hy = ly + pw m - 1) : inbox lx ly hx hy c d = (index c d / p4 m == index a b / p4 m) := by
  have hp := (pw8 hm).1
  have s := squares (a := a) (b := b) (c := c) (d := d) (k := m) (by omega) ⟨by omega, by omega, by omega, by omega⟩
  have s' : (index c d / p4 m == index a b / p4 m) = (index a b / p4 m == index c d / p4 m) := by rw [Bool.eq_iff_iff, beq_iff_eq, beq_iff_eq]; exact ⟨Eq.symm, Eq.symm⟩
  rw [s', s, Bool.eq_iff_iff, Bool.and_eq_true, beq_iff_eq, beq_iff_eq, inbox_iff', cell_eq hp, cell_eq hp]
  omega
theorem unit_near {x y u v : Int} (h : dot x y u v u v = 1) : (-1 ≤ u - x ∧ u - x ≤ 1) ∧ (-1 ≤ v - y ∧ v - y ≤ 1) := by
  unfold dot at h
  have key : ∀ p q : Int, p * p + q * q = 1 → -1 ≤ p ∧ p ≤ 1 := by
    intro p q h
    have h0 : 0 ≤ q * q := by rcases Int.le_total 0 q with k | k
                              · exact Int.mul_nonneg k k
                              · exact Int.mul_nonneg_of_nonpos_of_nonpos k k
    refine ⟨?_, ?_⟩
    · rcases Int.lt_or_le p (-1) with k | k
      · have := Int.mul_le_mul (show (2 : Int) ≤ -p by omega) (show (2 : Int) ≤ -p by omega) (by omega) (by omega)
        rw [Int.neg_mul_neg] at this; omega
      · exact k
    · rcases Int.lt_or_le 1 p with k | k
      · have := Int.mul_le_mul (show (2 : Int) ≤ p by omega) (show (2 : Int) ≤ p by omega) (by omega) (by omega)
        omega
      · exact k
  exact ⟨key _ _ h, key _ (u - x) (by omega)⟩
/-- the next place of the curve is in the box around a point -/
theorem next_in {a b : Int} (h : (-1048576 ≤ a ∧ a ≤ 1048576) ∧ (-1048576 ≤ b ∧ b ≤ 1048576)) (g : ofe (index a b + 1) = 0) : inbox (a - 1) (b - 1) (a + 1) (b + 1) (ofx (index a b + 1)) (ofy (index a b + 1)) = true := by
  obtain ⟨o1, o2, o3⟩ := of_index a b
  have s := of_step o1 g
  obtain ⟨a', b'⟩ := ofe_zero g
  have b2 := (okb_iff _ _).1 b'
  rw [lim_id h.1.1 h.1.2] at o2
  rw [lim_id h.2.1 h.2.2] at o3
  rw [o2, o3, lim_id h.1.1 h.1.2, lim_id h.2.1 h.2.2] at s
  have e1 : lim 1048576 (ofx (index a b + 1)) = ofx (index a b + 1) := by unfold ofx; rw [if_pos g]; exact lim_id b2.1.1 b2.1.2
  have e2 : lim 1048576 (ofy (index a b + 1)) = ofy (index a b + 1) := by unfold ofy; rw [if_pos g]; exact lim_id b2.2.1 b2.2.2
  rw [e1, e2] at s
  have u := unit_near s
  rw [inbox_iff']
  omega
theorem bxo_one (ax ay : Int) : bxo [(ax, ay)] [(ax, ay)].length = (lim 1048576 ax, lim 1048576 ay, lim 1048576 ax, lim 1048576 ay) := by
  show bxo [(ax, ay)] 1 = _
  rw [show bxo [(ax, ay)] 1 = _ from bxo_first rfl]
  simp only [mn_self', mx_self']
  rfl
theorem bok_big {a b c d : Int} (h : ((-1000 ≤ a ∧ a ≤ c) ∧ c ≤ 1000) ∧ ((-1000 ≤ b ∧ b ≤ d) ∧ d ≤ 1000)) : bok a b c d = true := by
  unfold bok okb
  rw [lim_id (by omega) (by omega), lim_id (by omega) (by omega), lim_id (by omega) (by omega), lim_id (by omega) (by omega)]
  simp; omega
end Go.Proofs.Ytndkhgfecnbmnaa.Am.Sp

