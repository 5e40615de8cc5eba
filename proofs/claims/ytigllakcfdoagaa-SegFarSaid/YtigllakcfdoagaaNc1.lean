import Derived.Test.YtigllakcfdoagaaNb9
set_option linter.unusedVariables false
namespace Go.Proofs.Ytigllakcfdoagaa.Am.Sp
/-! sums of fractions -/
theorem icop {a b : Int} (h : Int.gcd a b = 1) : Nat.Coprime a.natAbs b.natAbs := h
theorem add_num {a b c d : Int} (hb : 0 < b) (hd : 0 < d) (h1 : Nat.gcd a.natAbs b.natAbs = 1) (h2 : Nat.gcd c.natAbs d.natAbs = 1) :
    (Rat.divInt (a * d + c * b) (b * d)).num = (a * (d / (Int.gcd b d : Int)) + c * (b / (Int.gcd b d : Int))) / (Int.gcd (a * (d / (Int.gcd b d : Int)) + c * (b / (Int.gcd b d : Int))) (Int.gcd b d : Int) : Int) ∧
    ((Rat.divInt (a * d + c * b) (b * d)).den : Int) = (b / (Int.gcd b d : Int)) * (d / (Int.gcd (a * (d / (Int.gcd b d : Int)) + c * (b / (Int.gcd b d : Int))) (Int.gcd b d : Int) : Int)) := by
  have gp := gcd_pos (n := b) hd
  obtain ⟨b', eb⟩ : (Int.gcd b d : Int) ∣ b := Int.gcd_dvd_left b d
  obtain ⟨d', ed⟩ : (Int.gcd b d : Int) ∣ d := Int.gcd_dvd_right b d
  have qb : b / (Int.gcd b d : Int) = b' := by conv => lhs; arg 1; rw [eb]
                                               exact Int.mul_ediv_cancel_left _ (by omega)
  have qd' : d / (Int.gcd b d : Int) = d' := by conv => lhs; arg 1; rw [ed]
                                                exact Int.mul_ediv_cancel_left _ (by omega)
  have c1 : Nat.Coprime b'.natAbs d'.natAbs := by
    have := Int.gcd_ediv_gcd_ediv_gcd (i := b) (j := d) (by omega)
    rw [qb, qd'] at this; exact this
  rw [qb, qd']
  have cb : Nat.Coprime a.natAbs b'.natAbs := by
    have := cop_nat h1
    rw [eb, Int.natAbs_mul] at this; exact this.coprime_mul_left_right
  have cd : Nat.Coprime c.natAbs d'.natAbs := by
    have := cop_nat h2
    rw [ed, Int.natAbs_mul] at this; exact this.coprime_mul_left_right
  have hb' : 0 < b' := by
    rcases Int.lt_or_le 0 b' with h | h
    · exact h
    · have := Int.mul_le_mul_of_nonneg_left h (Int.le_of_lt gp); omega
  have hd' : 0 < d' := by
    rcases Int.lt_or_le 0 d' with h | h
    · exact h
    · have := Int.mul_le_mul_of_nonneg_left h (Int.le_of_lt gp); omega
  generalize hg : (Int.gcd b d : Int) = g at *
  generalize ht : a * d' + c * b' = t at *
  -- the sum has no divisor in common with b' and d'
  have tb : Nat.Coprime t.natAbs b'.natAbs := by
    have e : Int.gcd t b' = Int.gcd (a * d') b' := by rw [← ht]; exact Int.gcd_add_mul_right_left b' (a * d') c
    apply icop; rw [e]
    show Nat.gcd (a * d').natAbs b'.natAbs = 1
    rw [Int.natAbs_mul]
    exact Nat.Coprime.mul_left cb c1.symm
  have td : Nat.Coprime t.natAbs d'.natAbs := by
    have e : Int.gcd t d' = Int.gcd (c * b') d' := by rw [← ht, Int.add_comm]; exact Int.gcd_add_mul_right_left d' (c * b') a
    apply icop; rw [e]
    show Nat.gcd (c * b').natAbs d'.natAbs = 1
    rw [Int.natAbs_mul]
    exact Nat.Coprime.mul_left cd c1
  have hp := gcd_pos (n := t) gp
  obtain ⟨t', et⟩ : (Int.gcd t g : Int) ∣ t := Int.gcd_dvd_left t g
  obtain ⟨g', eg⟩ : (Int.gcd t g : Int) ∣ g := Int.gcd_dvd_right t g
  have qt : t / (Int.gcd t g : Int) = t' := by conv => lhs; arg 1; rw [et]
                                               exact Int.mul_ediv_cancel_left _ (by omega)
  have qg : g / (Int.gcd t g : Int) = g' := by conv => lhs; arg 1; rw [eg]
                                               exact Int.mul_ediv_cancel_left _ (by omega)
  have c2 : Nat.Coprime t'.natAbs g'.natAbs := by
    have := Int.gcd_ediv_gcd_ediv_gcd (i := t) (j := g) (by omega)
    rw [qt, qg] at this; exact this
  have qdh : d / (Int.gcd t g : Int) = g' * d' := by
    conv => lhs; arg 1; rw [ed, eg, Int.mul_assoc]
    exact Int.mul_ediv_cancel_left _ (by omega)
  rw [qt, qdh]
  have hg' : 0 < g' := by
    rcases Int.lt_or_le 0 g' with h | h
    · exact h
    · have := Int.mul_le_mul_of_nonneg_left h (Int.le_of_lt hp); omega
  have tb' : Nat.Coprime t'.natAbs b'.natAbs := by rw [et, Int.natAbs_mul] at tb; exact tb.coprime_mul_left
  have td' : Nat.Coprime t'.natAbs d'.natAbs := by rw [et, Int.natAbs_mul] at td; exact td.coprime_mul_left
  refine red_uniq (Int.mul_pos hb hd) (Int.mul_pos hb' (Int.mul_pos hg' hd')) ?_ ?_
  · rw [Int.natAbs_mul, Int.natAbs_mul]
    exact Nat.Coprime.mul_right tb' (Nat.Coprime.mul_right c2 td')
  · generalize (Int.gcd t g : Int) = h at *
    have e1 : t * g = h * t' * (h * g') := by rw [← et, ← eg]
    have e2 : a * d + c * b = g * t := by rw [← ht, ed, eb]; grind
    rw [e2]
    have e3 : b * d = g * b' * (g * d') := by rw [← eb, ← ed]
    rw [e3, et, eg]; grind
theorem add_leaf (a b c d : Int) : ∀ t h, t = fn a b * (fd c d / (Int.gcd (fd a b) (fd c d) : Int)) + fn c d * (fd a b / (Int.gcd (fd a b) (fd c d) : Int)) → h = (Int.gcd t (Int.gcd (fd a b) (fd c d) : Int) : Int) →
    prN (t / h) ((fd a b / (Int.gcd (fd a b) (fd c d) : Int)) * (fd c d / h)) = qn (rv a b + rv c d) ∧ prD (t / h) ((fd a b / (Int.gcd (fd a b) (fd c d) : Int)) * (fd c d / h)) = qd (rv a b + rv c d) ∧
    prE (t / h) ((fd a b / (Int.gcd (fd a b) (fd c d) : Int)) * (fd c d / h)) = qe (rv a b + rv c d) := by
  rintro t h rfl rfl
  have := add_num (fd_pos a b) (fd_pos c d) (f_cop a b) (f_cop c d)
  rw [rv_add] at this
  exact pr_fit this.1 this.2
theorem neg_leaf {a b : Int} (h0 : -9223372036854775808 ≤ a) (h1 : a ≤ 9223372036854775807) (h2 : b ≤ 9223372036854775807) : 0 - fn a b = qn (-rv a b) ∧ fd a b = qd (-rv a b) := by
  have x := fn_bd (d := b) h0 h1
  have y := fd_bd (n := a) h2
  have : fitq (-rv a b) = true := by
    unfold fitq
    rw [Rat.neg_num, Rat.neg_den, rv_num, rv_den]
    simp; omega
  unfold qn qd
  rw [if_pos this, if_pos this, Rat.neg_num, Rat.neg_den, rv_num, rv_den]; omega
def rabs (q : Rat) : Rat := if q < 0 then -q else q
theorem rv_neg_lt (a b : Int) : rv a b < 0 ↔ fn a b < 0 := by
  rw [Rat.lt_iff, rv_num, rv_den]
  simp
theorem abs_leaf {a b : Int} (h0 : -9223372036854775808 ≤ a) (h1 : a ≤ 9223372036854775807) (h2 : b ≤ 9223372036854775807) : mx (fn a b) (0 - fn a b) = qn (rabs (rv a b)) ∧ fd a b = qd (rabs (rv a b)) := by
  have n := neg_leaf h0 h1 h2
  have p := qn_rv h0 h1 h2
  unfold rabs
  by_cases h : rv a b < 0
  · rw [if_pos h, ← n.1, ← n.2]
    rw [rv_neg_lt] at h
    unfold mx; (repeat' split) <;> omega
  · rw [if_neg h, p.1, p.2.1]
    rw [rv_neg_lt] at h
    unfold mx; (repeat' split) <;> omega
def rsgn (q : Rat) : Int := if q < 0 then -1 else if 0 < q then 1 else 0
theorem sgn_leaf (a b : Int) : (fn a b < 0 → (-1 : Int) = rsgn (rv a b)) ∧ (fn a b > 0 → (1 : Int) = rsgn (rv a b)) ∧ (¬ fn a b < 0 → ¬ fn a b > 0 → (0 : Int) = rsgn (rv a b)) := by
  have h1 := rv_neg_lt a b
  have h2 : 0 < rv a b ↔ 0 < fn a b := by rw [Rat.lt_iff, rv_num, rv_den]; simp
  unfold rsgn
  refine ⟨fun h => ?_, fun h => ?_, fun h h' => ?_⟩
  · rw [if_pos (h1.2 h)]
  · rw [if_neg (fun q => by have := h1.1 q; omega), if_pos (h2.2 h)]
  · rw [if_neg (fun q => h (h1.1 q)), if_neg (fun q => h' (h2.1 q))]
theorem rcmp_zero (q : Rat) : rcmp q 0 = rsgn q := rfl
def rmin (a b : Rat) : Rat := if b < a then b else a
def rmax (a b : Rat) : Rat := if a < b then b else a
theorem rcmp_pos (a b : Rat) : decide (rcmp a b > 0) = decide (b < a) := by
  rw [decide_eq_decide]; unfold rcmp
  by_cases h1 : a < b
  · rw [if_pos h1]
    have : ¬ b < a := fun h => by grind
    simp [this]
  · rw [if_neg h1]
    by_cases h2 : b < a
    · rw [if_pos h2]; simp [h2]
    · rw [if_neg h2]; simp [h2]
end Go.Proofs.Ytigllakcfdoagaa.Am.Sp
