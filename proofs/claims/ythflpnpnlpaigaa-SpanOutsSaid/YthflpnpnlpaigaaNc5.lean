import Derived.Test.YthflpnpnlpaigaaNc4
set_option linter.unusedVariables false
set_option linter.unusedSimpArgs false
namespace Go.Proofs.Ythflpnpnlpaigaa.Am.Sp
def inS (l h a : Rat) : Bool := decide (l ≤ a) && decide (a ≤ h)
theorem in_nz {l h : Rat} (hl : l ≤ h) (h0 : inS l h ((0 : Int) : Rat) = false) : l ≠ 0 ∧ h ≠ 0 := by
  have z : ((0 : Int) : Rat) = 0 := rfl
  unfold inS at h0; rw [z] at h0
  rw [Bool.and_eq_false_iff, decide_eq_false_iff_not, decide_eq_false_iff_not] at h0
  constructor
  · intro e; subst e; rcases h0 with h0 | h0
    · exact h0 Rat.le_refl
    · exact h0 hl
  · intro e; subst e; rcases h0 with h0 | h0
    · exact h0 hl
    · exact h0 Rat.le_refl
theorem fl_fit {q : Rat} (h : fitq q = true) : -9223372036854775807 ≤ q.floor ∧ q.floor ≤ 9223372036854775807 := by
  have b1 := qn_bd q; have b2 := qd_bd q
  have := floor_bd (a := qn q) (b := qd q) (by omega) (by omega)
  rw [rv_fit h] at this; exact this
theorem mx_id {n : Int} (h : -9223372036854775807 ≤ n) : mx n (-9223372036854775807) = n := by unfold mx; rw [if_neg (by omega)]
end Go.Proofs.Ythflpnpnlpaigaa.Am.Sp
