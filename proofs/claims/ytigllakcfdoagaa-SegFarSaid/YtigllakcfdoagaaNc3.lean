import Derived.Test.YtigllakcfdoagaaNc2
set_option linter.unusedVariables false
set_option linter.unusedSimpArgs false
namespace Go.Proofs.Ytigllakcfdoagaa.Am.Sp
def d6 (k : Int) : Int := if k = 0 then 1 else if k = 1 then 2 else if k = 2 then 3 else if k = 3 then 4 else if k = 4 then 5 else 7
def numb (x : Int) : Rat := ((((x.tdiv 6) % (20 * d6 (x % 6) + 1) - 10 * d6 (x % 6)) : Int) : Rat) / ((d6 (x % 6) : Int) : Rat)
theorem d6_bd (k : Int) : 1 ≤ d6 k ∧ d6 k ≤ 7 := by unfold d6; (repeat' split) <;> omega
theorem numb_leaf {x k d : Int} (h : x % 6 = k) (hk : d6 k = d) (hd : d ≠ 0) : ∀ n, n = (x.tdiv 6) % (20 * d + 1) - 10 * d →
    dvn ((n : Int) : Rat) ((d : Int) : Rat) = qn (numb x) ∧ dvd ((n : Int) : Rat) ((d : Int) : Rat) = qd (numb x) := by
  rintro n rfl
  unfold numb dvn dvd; rw [h, hk]
  have : ((d : Int) : Rat) ≠ 0 := by rw [Ne, Rat.intCast_eq_zero_iff]; exact hd
  rw [if_neg this, if_neg this]; exact ⟨rfl, rfl⟩
theorem numb_bd (x : Int) : Bd 70 7 (numb x) := by
  unfold numb; have hd := d6_bd (x % 6)
  rw [← Rat.divInt_eq_div]
  refine Bd.mono (bd_divInt (by omega)) ?_ (by omega)
  have h0 := Int.emod_nonneg (x.tdiv 6) (show 20 * d6 (x % 6) + 1 ≠ 0 by omega)
  have h1 := Int.emod_lt_of_pos (x.tdiv 6) (show 0 < 20 * d6 (x % 6) + 1 by omega)
  omega
theorem Bd.inv0 {N D : Nat} {q : Rat} (h : Bd N D q) (k : 0 < q.num) : Bd D N q⁻¹ := by
  obtain ⟨h1, h2⟩ := h
  rw [Rat.inv_def]; exact Bd.mono (bd_divInt k) (by omega) (by omega)
theorem Bd.inv {N D : Nat} {q : Rat} (h : Bd N D q) (hq : q ≠ 0) : Bd D N q⁻¹ := by
  have hn : q.num ≠ 0 := by rw [Ne, Rat.num_eq_zero]; exact hq
  rcases Int.lt_or_gt_of_ne hn with k | k
  · rw [show q⁻¹ = -((-q)⁻¹) by grind]
    exact (h.neg.inv0 (by rw [Rat.neg_num]; omega)).neg
  · exact h.inv0 k
theorem Bd.div {N D N' D' : Nat} {a b : Rat} (h : Bd N D a) (k : Bd N' D' b) (hb : b ≠ 0) : Bd (N * D') (D * N') (a / b) := by
  rw [Rat.div_def]; exact h.mul (k.inv hb)
theorem gd_q {q : Rat} (h : fitq q = true) : gd (qn q) (qd q) = true := by
  have h' := (fitq_iff q).1 h
  unfold gd qn qd; rw [if_pos h, if_pos h]
  have := q.den_pos; have hr := q.reduced
  unfold Nat.Coprime at hr
  simp only [Bool.and_eq_true, decide_eq_true_eq]
  refine ⟨by omega, by omega, ?_⟩
  rw [Int.natAbs_natCast]; exact hr
theorem rcmp_bd (a b : Rat) : -1 ≤ rcmp a b ∧ rcmp a b ≤ 1 := by unfold rcmp; (repeat' split) <;> omega
theorem rsgn_bd (a : Rat) : -1 ≤ rsgn a ∧ rsgn a ≤ 1 := by unfold rsgn; (repeat' split) <;> omega
theorem rcmp_sub (a b : Rat) : rcmp a b = rsgn (a + -b) := by unfold rcmp rsgn; grind
theorem rcmp_swap (a b : Rat) : rcmp b a = 0 - rcmp a b := by unfold rcmp; grind
theorem rcmp_add (a b c : Rat) : rcmp (a + c) (b + c) = rcmp a b := by unfold rcmp; grind
theorem rmul_pos {a b c : Rat} (h : a < b) (hc : 0 < c) : a * c < b * c := Rat.mul_lt_mul_of_pos_right h hc
theorem rcmp_mul (a b c : Rat) : rcmp (a * c) (b * c) = rcmp a b * rsgn c := by
  have p1 : ∀ {a b c : Rat}, a < b → 0 < c → a * c < b * c := fun h hc => Rat.mul_lt_mul_of_pos_right h hc
  have p2 : ∀ {a b c : Rat}, a < b → c < 0 → b * c < a * c := fun {a b c} h hc => by
    have := p1 h (show 0 < -c by grind); grind
  unfold rcmp rsgn
  rcases (show a < b ∨ a = b ∨ b < a by grind) with h | h | h <;> rcases (show c < 0 ∨ c = 0 ∨ 0 < c by grind) with k | k | k
  · have := p2 h k; grind
  · subst k; grind
  · have := p1 h k; grind
  · subst h; grind
  · subst h; grind
  · subst h; grind
  · have := p2 h k; grind
  · subst k; grind
  · have := p1 h k; grind
theorem tdiv6_bd {x : Int} (h0 : -9223372036854775808 ≤ x) (h1 : x ≤ 9223372036854775807) : -9223372036854775808 ≤ x.tdiv 6 ∧ x.tdiv 6 ≤ 9223372036854775807 := by
  have := Int.natAbs_tdiv x 6
  rw [show (6 : Int).natAbs = 6 from rfl] at this
  have h2 : (x.tdiv 6).natAbs = x.natAbs / 6 := this
  omega
theorem qn_int (n : Int) (h0 : -9223372036854775807 ≤ n) (h1 : n ≤ 9223372036854775807) : qn ((n : Int) : Rat) = n ∧ qd ((n : Int) : Rat) = 1 := by
  unfold qn qd; rw [if_pos (fitq_int h0 h1), if_pos (fitq_int h0 h1), Rat.num_intCast, Rat.den_intCast]; exact ⟨rfl, rfl⟩
theorem dv_yes {a b : Rat} (h : b ≠ 0) : dvn a b = qn (a / b) ∧ dvd a b = qd (a / b) ∧ dve a b = qe (a / b) := by
  unfold dvn dvd dve; rw [if_neg h, if_neg h, if_neg h]; exact ⟨rfl, rfl, rfl⟩
theorem dv_no {a b : Rat} (h : b = 0) : dvn a b = 0 ∧ dvd a b = 0 ∧ dve a b = 12 := by
  unfold dvn dvd dve; rw [if_pos h, if_pos h, if_pos h]; exact ⟨rfl, rfl, rfl⟩
end Go.Proofs.Ytigllakcfdoagaa.Am.Sp
