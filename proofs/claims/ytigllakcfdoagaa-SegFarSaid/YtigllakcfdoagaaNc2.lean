import Derived.Test.YtigllakcfdoagaaNc1
set_option linter.unusedVariables false
namespace Go.Proofs.Ytigllakcfdoagaa.Am.Sp
/-! fractions as rational numbers -/
theorem rv_f (a b : Int) : rv (fn a b) (fd a b) = rv a b := by
  by_cases h : gd a b = true
  · unfold fn fd; rw [if_pos h, if_pos h]
  · have h1 : fn a b = 0 := fn_no h
    have h2 : fd a b = 1 := fd_no h
    rw [h1, h2]
    unfold rv
    rw [h1, h2]
    decide +kernel
theorem rv_fit {q : Rat} (h : fitq q = true) : rv (qn q) (qd q) = q := by rw [rv_q]; unfold rq; rw [if_pos h]
theorem rq_fit {q : Rat} (h : fitq q = true) : rq q = q := by unfold rq; rw [if_pos h]
theorem fitq_rq (q : Rat) : fitq (rq q) = true := by unfold rq; split; assumption; decide +kernel
theorem fitq_iff (q : Rat) : fitq q = true ↔ q.num.natAbs ≤ 9223372036854775807 ∧ q.den ≤ 9223372036854775807 := by
  unfold fitq; simp only [Bool.and_eq_true, decide_eq_true_eq]; omega
theorem fitq_neg {q : Rat} (h : fitq q = true) : fitq (-q) = true := by
  rw [fitq_iff] at *; rw [Rat.neg_num, Rat.neg_den]; omega
theorem fitq_min {a b : Rat} (h : fitq a = true) (k : fitq b = true) : fitq (rmin a b) = true := by unfold rmin; split <;> assumption
theorem fitq_max {a b : Rat} (h : fitq a = true) (k : fitq b = true) : fitq (rmax a b) = true := by unfold rmax; split <;> assumption
theorem fitq_abs {a : Rat} (h : fitq a = true) : fitq (rabs a) = true := by unfold rabs; split; exact fitq_neg h; exact h
theorem fitq_int {n : Int} (h0 : -9223372036854775807 ≤ n) (h1 : n ≤ 9223372036854775807) : fitq (n : Rat) = true := by
  rw [fitq_iff, Rat.num_intCast, Rat.den_intCast]; omega
theorem rv_int (n : Int) (h0 : -9223372036854775807 ≤ n) : rv n 1 = (n : Rat) := by
  have g : gd n 1 = true := by unfold gd; simp; omega
  rw [rv_good g, div_int]
  have : ((1 : Int) : Rat) = 1 := rfl
  rw [this]; grind
/-- size of a number -/
def Bd (N D : Nat) (q : Rat) : Prop := q.num.natAbs ≤ N ∧ q.den ≤ D
theorem bd_fit {N D : Nat} {q : Rat} (h : Bd N D q) (h1 : N ≤ 9223372036854775807) (h2 : D ≤ 9223372036854775807) : fitq q = true := by
  rw [fitq_iff]; exact ⟨Nat.le_trans h.1 h1, Nat.le_trans h.2 h2⟩
theorem Bd.neg {N D : Nat} {q : Rat} (h : Bd N D q) : Bd N D (-q) := by unfold Bd at *; rw [Rat.neg_num, Rat.neg_den, Int.natAbs_neg]; exact h
theorem bd_divInt {n d : Int} (hd : 0 < d) : Bd n.natAbs d.natAbs (Rat.divInt n d) := by
  have gp := gcd_pos (n := n) hd
  refine ⟨?_, ?_⟩
  · rw [dI_num hd]
    have h := abs_div n gp (Int.gcd_dvd_left n d)
    have h2 := quo_bd (a := (n.natAbs : Int)) (b := (Int.gcd n d : Int)) (by omega) gp
    generalize n / (Int.gcd n d : Int) = q at *
    split at h <;> omega
  · have h := dI_den (n := n) hd
    have h2 := quo_bd (a := d) (b := (Int.gcd n d : Int)) (by omega) gp
    omega
theorem Bd.mono {N D N' D' : Nat} {q : Rat} (h : Bd N D q) (h1 : N ≤ N') (h2 : D ≤ D') : Bd N' D' q := ⟨Nat.le_trans h.1 h1, Nat.le_trans h.2 h2⟩
theorem rat_self (q : Rat) : Rat.divInt q.num (q.den : Int) = q := by rw [Rat.divInt_ofNat, Rat.mkRat_self]
theorem Bd.mul {N D N' D' : Nat} {a b : Rat} (h : Bd N D a) (k : Bd N' D' b) : Bd (N * N') (D * D') (a * b) := by
  have e : a * b = Rat.divInt (a.num * b.num) ((a.den : Int) * b.den) := by
    conv => lhs; rw [← rat_self a, ← rat_self b, Rat.divInt_mul_divInt]
  rw [e]
  have pd : (0 : Int) < (a.den : Int) * b.den := Int.mul_pos (by have := a.den_pos; omega) (by have := b.den_pos; omega)
  refine (bd_divInt pd).mono ?_ ?_
  · rw [Int.natAbs_mul]; exact Nat.mul_le_mul h.1 k.1
  · rw [Int.natAbs_mul]; exact Nat.mul_le_mul (by simpa using h.2) (by simpa using k.2)
theorem Bd.add {N D N' D' : Nat} {a b : Rat} (h : Bd N D a) (k : Bd N' D' b) : Bd (N * D' + N' * D) (D * D') (a + b) := by
  have da := a.den_pos
  have db := b.den_pos
  have e : a + b = Rat.divInt (a.num * b.den + b.num * a.den) ((a.den : Int) * b.den) := by
    conv => lhs; rw [← rat_self a, ← rat_self b, Rat.divInt_add_divInt _ _ (by omega) (by omega)]
  rw [e]
  have pd : (0 : Int) < (a.den : Int) * b.den := Int.mul_pos (by omega) (by omega)
  refine (bd_divInt pd).mono ?_ ?_
  · refine Nat.le_trans (Int.natAbs_add_le _ _) (Nat.add_le_add ?_ ?_)
    · rw [Int.natAbs_mul]; exact Nat.mul_le_mul h.1 (by simpa using k.2)
    · rw [Int.natAbs_mul]; exact Nat.mul_le_mul k.1 (by simpa using h.2)
  · rw [Int.natAbs_mul]; exact Nat.mul_le_mul (by simpa using h.2) (by simpa using k.2)
theorem Bd.sub {N D N' D' : Nat} {a b : Rat} (h : Bd N D a) (k : Bd N' D' b) : Bd (N * D' + N' * D) (D * D') (a - b) := by
  rw [Rat.sub_eq_add_neg]; exact h.add k.neg
theorem Bd.abs {N D : Nat} {q : Rat} (h : Bd N D q) : Bd N D (rabs q) := by unfold rabs; split; exact h.neg; exact h
theorem Bd.min {N D N' D' : Nat} {a b : Rat} (h : Bd N D a) (k : Bd N' D' b) : Bd (Nat.max N N') (Nat.max D D') (rmin a b) := by
  unfold rmin; split
  · exact k.mono (Nat.le_max_right _ _) (Nat.le_max_right _ _)
  · exact h.mono (Nat.le_max_left _ _) (Nat.le_max_left _ _)
theorem Bd.max {N D N' D' : Nat} {a b : Rat} (h : Bd N D a) (k : Bd N' D' b) : Bd (Nat.max N N') (Nat.max D D') (rmax a b) := by
  unfold rmax; split
  · exact k.mono (Nat.le_max_right _ _) (Nat.le_max_right _ _)
  · exact h.mono (Nat.le_max_left _ _) (Nat.le_max_left _ _)
theorem Bd.int (n : Int) : Bd n.natAbs 1 (n : Rat) := by unfold Bd; rw [Rat.num_intCast, Rat.den_intCast]; exact ⟨Nat.le_refl _, Nat.le_refl _⟩
theorem gcd_mod (t g : Int) : Int.gcd (t % g) g = Int.gcd t g := by
  have e : t % g = t + g * (-(t / g)) := by have := Int.emod_add_mul_ediv t g; grind
  rw [e, Int.gcd_add_mul_left_left]
theorem qe_fit {q : Rat} (h : fitq q = true) : qe q = 0 := by unfold qe; rw [if_pos h]
theorem rcmp_neg (a b : Rat) : decide (rcmp a b < 0) = decide (a < b) := by
  rw [decide_eq_decide]; unfold rcmp
  by_cases h1 : a < b
  · rw [if_pos h1]; simp [h1]
  · rw [if_neg h1]
    by_cases h2 : b < a
    · rw [if_pos h2]; simp [h1]
    · rw [if_neg h2]; simp [h1]
theorem rcmp_le (a b : Rat) : decide (rcmp a b ≤ 0) = decide (a ≤ b) := by
  rw [decide_eq_decide]; unfold rcmp
  by_cases h1 : a < b
  · rw [if_pos h1]; simp [Rat.le_of_lt h1]
  · rw [if_neg h1]
    by_cases h2 : b < a
    · rw [if_pos h2]; simp; grind
    · rw [if_neg h2]; simp; grind
theorem rcmp_ge (a b : Rat) : decide (rcmp a b ≥ 0) = decide (b ≤ a) := by
  rw [decide_eq_decide]; unfold rcmp
  by_cases h1 : a < b
  · rw [if_pos h1]; simp; grind
  · rw [if_neg h1]
    by_cases h2 : b < a
    · rw [if_pos h2]; simp; grind
    · rw [if_neg h2]; simp; grind
theorem rcmp_eq (a b : Rat) : (rcmp a b == 0) = decide (a = b) := by
  rw [Bool.eq_iff_iff, beq_iff_eq, decide_eq_true_eq]; unfold rcmp
  by_cases h1 : a < b
  · rw [if_pos h1]; simp; grind
  · rw [if_neg h1]
    by_cases h2 : b < a
    · rw [if_pos h2]; simp; grind
    · rw [if_neg h2]; simp; grind
end Go.Proofs.Ytigllakcfdoagaa.Am.Sp
