import Derived.Test.YtigllakcfdoagaaNc3
set_option linter.unusedVariables false
set_option linter.unusedSimpArgs false
namespace Go.Proofs.Ytigllakcfdoagaa.Am.Sp
/-! spans -/
theorem rmin_self (a : Rat) : rmin a a = a := by unfold rmin; split <;> rfl
theorem rmax_self (a : Rat) : rmax a a = a := by unfold rmax; split <;> rfl
theorem qe_eq0 (q : Rat) : (qe q == 0) = fitq q := by unfold qe; cases h : fitq q <;> simp
theorem qe_ne0 (q : Rat) : (qe q != 0) = !fitq q := by rw [bne, qe_eq0]
def sgS (a b c d : Int) : Bool := gd a b && (gd c d && decide (rv a b ≤ rv c d))
def sl (a b c d : Int) : Rat := if sgS a b c d = true then rv a b else ((0 : Int) : Rat)
def sh (a b c d : Int) : Rat := if sgS a b c d = true then rv c d else ((0 : Int) : Rat)
theorem fit_zero : fitq ((0 : Int) : Rat) = true := fitq_int (by decide) (by decide)
theorem fit_sl {a b c d : Int} (h0 : -9223372036854775808 ≤ a) (h1 : a ≤ 9223372036854775807) (h2 : b ≤ 9223372036854775807) : fitq (sl a b c d) = true := by
  unfold sl; split
  · exact fits_rv h0 h1 h2
  · exact fit_zero
theorem fit_sh {a b c d : Int} (h0 : -9223372036854775808 ≤ c) (h1 : c ≤ 9223372036854775807) (h2 : d ≤ 9223372036854775807) : fitq (sh a b c d) = true := by
  unfold sh; split
  · exact fits_rv h0 h1 h2
  · exact fit_zero
theorem gd_fq {n d : Int} (h : gd n d = true) : fn n d = n ∧ fd n d = d := by unfold fn fd; rw [if_pos h, if_pos h]; exact ⟨rfl, rfl⟩
theorem sl_yes {a b c d : Int} (a0 : -9223372036854775808 ≤ a) (a1 : a ≤ 9223372036854775807) (b1 : b ≤ 9223372036854775807) (c0 : -9223372036854775808 ≤ c) (c1 : c ≤ 9223372036854775807) (d1 : d ≤ 9223372036854775807)
    (h : sgS a b c d = true) : a = qn (sl a b c d) ∧ b = qd (sl a b c d) ∧ c = qn (sh a b c d) ∧ d = qd (sh a b c d) := by
  unfold sl sh; rw [if_pos h, if_pos h]
  have h1 := qn_rv a0 a1 b1; have h2 := qn_rv c0 c1 d1
  unfold sgS at h; rw [Bool.and_eq_true, Bool.and_eq_true] at h
  have g1 := gd_fq h.1; have g2 := gd_fq h.2.1
  exact ⟨by rw [h1.1, g1.1], by rw [h1.2.1, g1.2], by rw [h2.1, g2.1], by rw [h2.2.1, g2.2]⟩
theorem sl_no {a b c d : Int} (h : ¬ sgS a b c d = true) : sl a b c d = ((0 : Int) : Rat) ∧ sh a b c d = ((0 : Int) : Rat) := by unfold sl sh; rw [if_neg h, if_neg h]; exact ⟨rfl, rfl⟩
theorem qn_zero : qn ((0 : Int) : Rat) = 0 := (qn_int 0 (by decide) (by decide)).1
theorem qd_zero : qd ((0 : Int) : Rat) = 1 := (qn_int 0 (by decide) (by decide)).2
theorem sl_no' {a b c d : Int} (h : ¬ sgS a b c d = true) : qn (sl a b c d) = 0 ∧ qd (sl a b c d) = 1 ∧ qn (sh a b c d) = 0 ∧ qd (sh a b c d) = 1 := by
  obtain ⟨h1, h2⟩ := sl_no h
  rw [h1, h2]; exact ⟨qn_zero, qd_zero, qn_zero, qd_zero⟩
theorem sl_le (a b c d : Int) : sl a b c d ≤ sh a b c d := by
  unfold sl sh; split
  · rename_i h; unfold sgS at h; rw [Bool.and_eq_true, Bool.and_eq_true] at h; exact of_decide_eq_true h.2.2
  · exact Rat.le_refl
def al4 (p q r s : Rat) : Bool := fitq p && (fitq q && (fitq r && fitq s))
def m4 (p q r s : Rat) : Rat := rmin (rmin (rmin p q) r) s
def x4 (p q r s : Rat) : Rat := rmax (rmax (rmax p q) r) s
def m4n (p q r s : Rat) : Int := if al4 p q r s = true then qn (rmin (rmin (rmin p q) r) s) else 0
def m4d (p q r s : Rat) : Int := if al4 p q r s = true then qd (rmin (rmin (rmin p q) r) s) else 0
def x4n (p q r s : Rat) : Int := if al4 p q r s = true then qn (rmax (rmax (rmax p q) r) s) else 0
def x4d (p q r s : Rat) : Int := if al4 p q r s = true then qd (rmax (rmax (rmax p q) r) s) else 0
def e4 (p q r s : Rat) : Int := if al4 p q r s = true then 0 else 2
theorem al4_yes {p q r s : Rat} (h1 : fitq p = true) (h2 : fitq q = true) (h3 : fitq r = true) (h4 : fitq s = true) : al4 p q r s = true := by unfold al4; rw [h1, h2, h3, h4]; rfl
theorem s4_yes {p q r s : Rat} (h : al4 p q r s = true) : qn (rmin (rmin (rmin p q) r) s) = m4n p q r s ∧ qd (rmin (rmin (rmin p q) r) s) = m4d p q r s ∧ qn (rmax (rmax (rmax p q) r) s) = x4n p q r s ∧ qd (rmax (rmax (rmax p q) r) s) = x4d p q r s ∧ (0 : Int) = e4 p q r s := by
  unfold m4n m4d x4n x4d e4; simp only [if_pos h]; exact ⟨trivial, trivial, trivial, trivial, trivial⟩
theorem s4_no {p q r s : Rat} (h : fitq p = false ∨ fitq q = false ∨ fitq r = false ∨ fitq s = false) : (0 : Int) = m4n p q r s ∧ (0 : Int) = m4d p q r s ∧ (0 : Int) = x4n p q r s ∧ (0 : Int) = x4d p q r s ∧ (2 : Int) = e4 p q r s := by
  have : ¬ al4 p q r s = true := by
    unfold al4; simp only [Bool.and_eq_true]
    rintro ⟨h1, h2, h3, h4⟩
    rcases h with h | h | h | h
    · rw [h1] at h; cases h
    · rw [h2] at h; cases h
    · rw [h3] at h; cases h
    · rw [h4] at h; cases h
  unfold m4n m4d x4n x4d e4; simp only [if_neg this]; exact ⟨trivial, trivial, trivial, trivial, trivial⟩
theorem m4_bd (p q r s : Rat) : -9223372036854775807 ≤ m4n p q r s ∧ m4n p q r s ≤ 9223372036854775807 ∧ 0 ≤ m4d p q r s ∧ m4d p q r s ≤ 9223372036854775807 := by
  unfold m4n m4d; split
  · have := qn_bd (rmin (rmin (rmin p q) r) s); have := qd_bd (rmin (rmin (rmin p q) r) s); omega
  · omega
theorem x4_bd (p q r s : Rat) : -9223372036854775807 ≤ x4n p q r s ∧ x4n p q r s ≤ 9223372036854775807 ∧ 0 ≤ x4d p q r s ∧ x4d p q r s ≤ 9223372036854775807 := by
  unfold x4n x4d; split
  · have := qn_bd (rmax (rmax (rmax p q) r) s); have := qd_bd (rmax (rmax (rmax p q) r) s); omega
  · omega
end Go.Proofs.Ytigllakcfdoagaa.Am.Sp
