import Derived.Test.YtigllakcfdoagaaNc3
import Derived.Test.YtigllakcfdoagaaSq1
set_option linter.unusedVariables false
set_option linter.unusedSimpArgs false
namespace Go.Proofs.Ytigllakcfdoagaa.Am.Sp
/-! The point that two segments have in common -/
/-- from + way * num / den -/
def alg (f w n d : Int) : Rat := ((f : Int) : Rat) + ((w * n : Int) : Rat) / ((d : Int) : Rat)
theorem alg_neg (f w n d : Int) : alg f w (0 - n) (0 - d) = alg f w n d := by
  unfold alg
  rw [Int.zero_sub, Int.zero_sub, Int.mul_neg, Rat.intCast_neg, Rat.intCast_neg]
  grind
theorem alg_split {f w n d : Int} (hd : 0 < d) : ((f + w * n / d : Int) : Rat) + ((w * n % d : Int) : Rat) / ((d : Int) : Rat) = alg f w n d := by
  unfold alg
  have h : ((d : Int) : Rat) ≠ 0 := by rw [Ne, Rat.intCast_eq_zero_iff]; omega
  have e : ((w * n : Int) : Rat) = ((w * n / d : Int) : Rat) * ((d : Int) : Rat) + ((w * n % d : Int) : Rat) := by
    rw [← Rat.intCast_mul, ← Rat.intCast_add, Int.ediv_mul_add_emod]
  rw [e, Rat.intCast_add]
  grind
theorem alg_eq {f w n d : Int} (hd : d ≠ 0) : alg f w n d * ((d : Int) : Rat) = ((f * d + w * n : Int) : Rat) := by
  unfold alg
  have h : ((d : Int) : Rat) ≠ 0 := by rw [Ne, Rat.intCast_eq_zero_iff]; omega
  rw [Rat.intCast_add, Rat.intCast_mul f d]
  grind
/-- two quotients are one number -/
theorem alg_same {f w n d g v m e : Int} (hd : d ≠ 0) (he : e ≠ 0) (h : (f * d + w * n) * e = (g * e + v * m) * d) : alg f w n d = alg g v m e := by
  have a := alg_eq (f := f) (w := w) (n := n) hd
  have b := alg_eq (f := g) (w := v) (n := m) he
  have hd' : ((d : Int) : Rat) ≠ 0 := by rw [Ne, Rat.intCast_eq_zero_iff]; omega
  have he' : ((e : Int) : Rat) ≠ 0 := by rw [Ne, Rat.intCast_eq_zero_iff]; omega
  have c : ((f * d + w * n : Int) : Rat) * ((e : Int) : Rat) = ((g * e + v * m : Int) : Rat) * ((d : Int) : Rat) := by rw [← Rat.intCast_mul, ← Rat.intCast_mul, h]
  rw [← a, ← b] at c
  grind
theorem alg_le {f w n d k : Int} (hd : 0 < d) : alg f w n d ≤ ((k : Int) : Rat) ↔ f * d + w * n ≤ k * d := by
  have a := alg_eq (f := f) (w := w) (n := n) (d := d) (by omega)
  have hd' : (0 : Rat) < ((d : Int) : Rat) := by rw [show (0 : Rat) = ((0 : Int) : Rat) by rfl, Rat.intCast_lt_intCast]; exact hd
  rw [← Rat.intCast_le_intCast, ← a, Rat.intCast_mul]
  constructor
  · intro h; exact Rat.mul_le_mul_of_nonneg_right h (Rat.le_of_lt hd')
  · intro h; exact Rat.le_of_mul_le_mul_right h hd'
theorem le_alg {f w n d k : Int} (hd : 0 < d) : ((k : Int) : Rat) ≤ alg f w n d ↔ k * d ≤ f * d + w * n := by
  have a := alg_eq (f := f) (w := w) (n := n) (d := d) (by omega)
  have hd' : (0 : Rat) < ((d : Int) : Rat) := by rw [show (0 : Rat) = ((0 : Int) : Rat) by rfl, Rat.intCast_lt_intCast]; exact hd
  rw [← Rat.intCast_le_intCast, ← a, Rat.intCast_mul]
  constructor
  · intro h; exact Rat.mul_le_mul_of_nonneg_right h (Rat.le_of_lt hd')
  · intro h; exact Rat.le_of_mul_le_mul_right h hd'
theorem alg_den (f w n d : Int) (hd : 0 < d) : ((alg f w n d).den : Int) ≤ d := by
  have e : alg f w n d = Rat.divInt (f * d + w * n) d := by
    have a := alg_eq (f := f) (w := w) (n := n) (d := d) (by omega)
    have hd' : ((d : Int) : Rat) ≠ 0 := by rw [Ne, Rat.intCast_eq_zero_iff]; omega
    rw [Rat.divInt_eq_div]
    grind
  rw [e]
  have := (bd_divInt (n := f * d + w * n) hd).2
  omega
theorem mul_den (q : Rat) : q * ((q.den : Int) : Rat) = ((q.num : Int) : Rat) := by
  have hd : ((q.den : Int) : Rat) ≠ 0 := by rw [Ne, Rat.intCast_eq_zero_iff]; have := q.den_pos; omega
  have e : ((q.num : Int) : Rat) / ((q.den : Int) : Rat) = q := by rw [← Rat.divInt_eq_div]; exact rat_self q
  conv => lhs; lhs; rw [← e]
  grind
theorem rat_le_mk {q : Rat} {k : Int} : q ≤ ((k : Int) : Rat) ↔ q.num ≤ k * q.den := by
  have e : q = Rat.divInt q.num (q.den : Int) := (rat_self q).symm
  have hd : (0 : Int) < (q.den : Int) := by have := q.den_pos; omega
  have a := mul_den q
  have hd' : (0 : Rat) < (((q.den : Int) : Int) : Rat) := by rw [show (0 : Rat) = ((0 : Int) : Rat) by rfl, Rat.intCast_lt_intCast]; exact hd
  rw [← Rat.intCast_le_intCast, ← a, Rat.intCast_mul]
  constructor
  · intro h; exact Rat.mul_le_mul_of_nonneg_right h (Rat.le_of_lt hd')
  · intro h; exact Rat.le_of_mul_le_mul_right h hd'
theorem mk_le_rat {q : Rat} {k : Int} : ((k : Int) : Rat) ≤ q ↔ k * q.den ≤ q.num := by
  have hd : (0 : Int) < (q.den : Int) := by have := q.den_pos; omega
  have a := mul_den q
  have hd' : (0 : Rat) < (((q.den : Int) : Int) : Rat) := by rw [show (0 : Rat) = ((0 : Int) : Rat) by rfl, Rat.intCast_lt_intCast]; exact hd
  rw [← Rat.intCast_le_intCast, ← a, Rat.intCast_mul]
  constructor
  · intro h; exact Rat.mul_le_mul_of_nonneg_right h (Rat.le_of_lt hd')
  · intro h; exact Rat.le_of_mul_le_mul_right h hd'
/-- a place of the plane is told by numbers of 64 bits -/
theorem place_fit {q : Rat} (h0 : ((-1048576 : Int) : Rat) ≤ q) (h1 : q ≤ ((1048576 : Int) : Rat)) (hd : (q.den : Int) ≤ 8796093022208) : fitq q = true := by
  rw [fitq_iff]
  rw [mk_le_rat] at h0
  rw [rat_le_mk] at h1
  have hp := q.den_pos
  refine ⟨?_, by omega⟩
  have hr := q.reduced
  rcases (show (q.den : Int) < 8796093022208 ∨ (q.den : Int) = 8796093022208 by omega) with k | k
  · omega
  · by_cases e : q.num.natAbs = 9223372036854775808
    · exfalso
      have e2 : q.den = 8796093022208 := by omega
      rw [e, e2] at hr
      exact absurd hr (by decide)
    · omega
end Go.Proofs.Ytigllakcfdoagaa.Am.Sp
