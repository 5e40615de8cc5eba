import Derived.Test.YtigllakcfdoagaaNc4
set_option linter.unusedVariables false
set_option linter.unusedSimpArgs false
namespace Go.Proofs.Ytigllakcfdoagaa.Am.Sp
def inS (l h a : Rat) : Bool := decide (l ≤ a) && decide (a ≤ h)
theorem in_nz {l h : Rat} (hl : l ≤ h) (h0 : inS l h ((0 : Int) : Rat) = false) : l ≠ 0 ∧ h ≠ 0 := by
  have z : ((0 : Int) : Rat) = 0 := rfl
  unfold inS at h0; rw [z] at h0
  rw [Bool.and_eq_false_iff, decide_eq_false_iff_not, decide_eq_false_iff_not] at h0
  constructor
  · intro e; subst e; rcases h0 with h0 | h0
    · exact h0 Rat.le_refl
    · exact h0 hl
  · intro e; subst e; rcases h0 with h0 | h0
    · exact h0 hl
    · exact h0 Rat.le_refl
theorem fl_fit {q : Rat} (h : fitq q = true) : -9223372036854775807 ≤ q.floor ∧ q.floor ≤ 9223372036854775807 := by
  have b1 := qn_bd q; have b2 := qd_bd q
  have := floor_bd (a := qn q) (b := qd q) (by omega) (by omega)
  rw [rv_fit h] at this; exact this
theorem mx_id {n : Int} (h : -9223372036854775807 ≤ n) : mx n (-9223372036854775807) = n := by unfold mx; rw [if_neg (by omega)]
theorem join_low {a b c d : Rat} (h : a ≤ b) (k : c ≤ d) : rmin (rmin (rmin (rmin c a) (rmin d a)) (rmin c b)) (rmin d b) = rmin a c := by
  have e1 : rmin d a = a ∨ c ≤ rmin d a := by unfold rmin; grind
  unfold rmin; grind
theorem join_high {a b c d : Rat} (h : a ≤ b) (k : c ≤ d) : rmax (rmax (rmax (rmax c a) (rmax d a)) (rmax c b)) (rmax d b) = rmax b d := by
  unfold rmax; grind
theorem rmin_max (a b : Rat) : rmin a b ≤ rmax a b := by unfold rmin rmax; grind
theorem sl_told {p q : Rat} (hp : fitq p = true) (hq : fitq q = true) (h : p ≤ q) : sl (qn p) (qd p) (qn q) (qd q) = p ∧ sh (qn p) (qd p) (qn q) (qd q) = q := by
  have : sgS (qn p) (qd p) (qn q) (qd q) = true := by
    unfold sgS; rw [gd_q hp, gd_q hq, rv_fit hp, rv_fit hq]; simpa using h
  unfold sl sh; rw [if_pos this, if_pos this, rv_fit hp, rv_fit hq]; exact ⟨rfl, rfl⟩
theorem radd_le {a b c d : Rat} (h : a ≤ b) (k : c ≤ d) : a + c ≤ b + d := by grind
theorem rmin_le {a b : Rat} (h : a ≤ b) : rmin a b = a := by unfold rmin; grind
theorem rmax_le {a b : Rat} (h : a ≤ b) : rmax a b = b := by unfold rmax; grind
def meetS (a b c d : Rat) : Bool := decide (a ≤ d) && decide (c ≤ b)
theorem meet_in {a b c d : Rat} (h : a ≤ b) (k : c ≤ d) : meetS a b c d = (inS a b c || inS c d a) := by
  unfold meetS inS
  rw [Bool.eq_iff_iff]; simp only [Bool.and_eq_true, Bool.or_eq_true, decide_eq_true_eq]; grind
def al2 (p q : Rat) : Bool := fitq p && fitq q
def m2n (p q : Rat) : Int := if al2 p q = true then qn (rmin p q) else 0
def m2d (p q : Rat) : Int := if al2 p q = true then qd (rmin p q) else 0
def x2n (p q : Rat) : Int := if al2 p q = true then qn (rmax p q) else 0
def x2d (p q : Rat) : Int := if al2 p q = true then qd (rmax p q) else 0
def e2 (p q : Rat) : Int := if al2 p q = true then 0 else 2
theorem s2_yes {p q : Rat} (h1 : fitq p = true) (h2 : fitq q = true) : qn (rmin p q) = m2n p q ∧ qd (rmin p q) = m2d p q ∧ qn (rmax p q) = x2n p q ∧ qd (rmax p q) = x2d p q ∧ (0 : Int) = e2 p q := by
  have : al2 p q = true := by unfold al2; rw [h1, h2]; rfl
  unfold m2n m2d x2n x2d e2; simp only [if_pos this]; exact ⟨trivial, trivial, trivial, trivial, trivial⟩
theorem s2_no {p q : Rat} (h : fitq p = false ∨ fitq q = false) : (0 : Int) = m2n p q ∧ (0 : Int) = m2d p q ∧ (0 : Int) = x2n p q ∧ (0 : Int) = x2d p q ∧ (2 : Int) = e2 p q := by
  have : ¬ al2 p q = true := by
    unfold al2; rcases h with h | h <;> rw [h] <;> simp
  unfold m2n m2d x2n x2d e2; simp only [if_neg this]; exact ⟨trivial, trivial, trivial, trivial, trivial⟩
end Go.Proofs.Ytigllakcfdoagaa.Am.Sp
