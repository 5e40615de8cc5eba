import Derived.Test.YtigllakcfdoagaaNb1
namespace Go.Proofs.Ytigllakcfdoagaa.Am.Sp
/-! Rational numbers of limited size -/
def gd (n d : Int) : Bool := decide (0 < d) && (decide (-9223372036854775808 < n) && decide (Nat.gcd n.natAbs d.natAbs = 1))
def fn (n d : Int) : Int := if gd n d = true then n else 0
def fd (n d : Int) : Int := if gd n d = true then d else 1
def rv (n d : Int) : Rat := Rat.divInt (fn n d) (fd n d)
theorem fd_pos (n d : Int) : 0 < fd n d := by
  unfold fd gd
  split
  · rename_i h; simp only [Bool.and_eq_true, decide_eq_true_eq] at h; exact h.1
  · decide
theorem f_cop (n d : Int) : Nat.gcd (fn n d).natAbs (fd n d).natAbs = 1 := by
  unfold fn fd
  by_cases h : gd n d = true
  · rw [if_pos h, if_pos h]; unfold gd at h; simp only [Bool.and_eq_true, decide_eq_true_eq] at h; exact h.2.2
  · rw [if_neg h, if_neg h]; decide
theorem divInt_cop {p q : Int} (hq : 0 < q) (h : Nat.gcd p.natAbs q.natAbs = 1) : (Rat.divInt p q).num = p ∧ ((Rat.divInt p q).den : Int) = q := by
  rw [Rat.num_divInt, Rat.den_divInt, if_neg (by omega), Int.sign_eq_one_of_pos hq]
  have g : Int.gcd q p = 1 := by rw [Int.gcd_comm]; exact h
  rw [g]
  refine ⟨by simp, ?_⟩
  have e : q.natAbs / 1 = q.natAbs := Nat.div_one _
  rw [e]; omega
theorem rv_num (n d : Int) : (rv n d).num = fn n d := (divInt_cop (fd_pos n d) (f_cop n d)).1
theorem rv_den (n d : Int) : ((rv n d).den : Int) = fd n d := (divInt_cop (fd_pos n d) (f_cop n d)).2
/-- the reduced form is the only one -/
theorem red_uniq {n d p q : Int} (hd : 0 < d) (hq : 0 < q) (h : Nat.gcd p.natAbs q.natAbs = 1) (e : p * d = n * q) : (Rat.divInt n d).num = p ∧ ((Rat.divInt n d).den : Int) = q := by
  have : Rat.divInt n d = Rat.divInt p q := (Rat.divInt_eq_divInt_iff (by omega) (by omega)).2 e.symm
  rw [this]; exact divInt_cop hq h
def M63 : Int := 9223372036854775807
def fitq (q : Rat) : Bool := decide (-9223372036854775807 ≤ q.num) && (decide (q.num ≤ 9223372036854775807) && decide ((q.den : Int) ≤ 9223372036854775807))
def qn (q : Rat) : Int := if fitq q = true then q.num else 0
def qd (q : Rat) : Int := if fitq q = true then q.den else 0
def qe (q : Rat) : Int := if fitq q = true then 0 else 2
end Go.Proofs.Ytigllakcfdoagaa.Am.Sp
