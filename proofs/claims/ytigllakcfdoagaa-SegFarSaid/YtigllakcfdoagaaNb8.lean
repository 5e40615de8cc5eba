import Derived.Test.YtigllakcfdoagaaNb7
namespace Go.Proofs.Ytigllakcfdoagaa.Am.Sp
theorem fn_no {n d : Int} (h : ¬ gd n d = true) : fn n d = 0 := by unfold fn; rw [if_neg h]
theorem fd_no {n d : Int} (h : ¬ gd n d = true) : fd n d = 1 := by unfold fd; rw [if_neg h]
theorem fn_yes {n d : Int} (h : gd n d = true) : fn n d = n := by unfold fn; rw [if_pos h]
theorem fd_yes {n d : Int} (h : gd n d = true) : fd n d = d := by unfold fd; rw [if_pos h]
theorem s64_nn (x : Int) (h : 0 ≤ x := by omega) (h1 : in64 x = true) : 0 ≤ s64 x := by
  have := in64_true h1
  rw [s64_id this.1 this.2]; exact h
theorem sgn_eq0 (d : Int) : (sgn d == 0) = decide (d = 0) := by rw [Bool.eq_iff_iff, beq_iff_eq, decide_eq_true_eq]; unfold sgn; (repeat' split) <;> omega
theorem sgn_eqn (d : Int) : (sgn d == -1) = decide (d < 0) := by rw [Bool.eq_iff_iff, beq_iff_eq, decide_eq_true_eq]; unfold sgn; (repeat' split) <;> omega
theorem gcd_one (n d : Int) : ((Int.gcd n d : Int) == 1) = decide (Nat.gcd n.natAbs d.natAbs = 1) := by
  rw [Bool.eq_iff_iff, beq_iff_eq, decide_eq_true_eq]; unfold Int.gcd; omega
theorem gcd_posN {n d : Int} (hd : d ≠ 0) : 0 < (Int.gcd n d : Int) := by
  have : 0 < Int.gcd n d := Int.gcd_pos_of_ne_zero_right n hd
  omega
end Go.Proofs.Ytigllakcfdoagaa.Am.Sp
