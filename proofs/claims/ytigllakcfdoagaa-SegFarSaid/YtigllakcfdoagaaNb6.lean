import Derived.Test.YtigllakcfdoagaaNb5
namespace Go.Proofs.Ytigllakcfdoagaa.Am.Sp
/-! Rational numbers: reduced forms -/
theorem gcd_abs (n d : Int) : Int.gcd (n.natAbs : Int) d = Int.gcd n d := by unfold Int.gcd; rw [Int.natAbs_natCast]
theorem gcd_pos {n d : Int} (hd : 0 < d) : 0 < (Int.gcd n d : Int) := by
  have : 0 < Int.gcd n d := Int.gcd_pos_of_ne_zero_right n (by omega)
  omega
theorem abs_div (n : Int) {g : Int} (hg : 0 < g) (h : g ∣ n) : (n.natAbs : Int) / g = if n < 0 then -(n / g) else n / g := by
  obtain ⟨k, rfl⟩ := h
  rw [Int.mul_ediv_cancel_left _ (by omega)]
  split
  · rename_i hn
    have e : ((g * k).natAbs : Int) = g * (-k) := by rw [Int.mul_neg]; omega
    rw [e, Int.mul_ediv_cancel_left _ (by omega)]
  · rename_i hn
    have e : ((g * k).natAbs : Int) = g * k := by omega
    rw [e, Int.mul_ediv_cancel_left _ (by omega)]
theorem dI_num {n d : Int} (hd : 0 < d) : (Rat.divInt n d).num = n / (Int.gcd n d : Int) := by
  rw [Rat.num_divInt, Int.sign_eq_one_of_pos hd, Int.one_mul, Int.gcd_comm]
theorem dI_den {n d : Int} (hd : 0 < d) : ((Rat.divInt n d).den : Int) = d / (Int.gcd n d : Int) := by
  rw [Rat.den_divInt, if_neg (by omega), Int.gcd_comm]
  have : (d.natAbs : Int) = d := by omega
  rw [Int.natCast_ediv, this]
theorem in64_pos {x : Int} (h : 0 ≤ x) : in64 x = decide (x ≤ 9223372036854775807) := by
  unfold in64
  rw [decide_eq_true (show -9223372036854775808 ≤ x by omega), Bool.true_and]
theorem fit_red {n d : Int} (hd : 0 < d) : fitq (Rat.divInt n d) = (in64 ((n.natAbs : Int) / (Int.gcd (n.natAbs : Int) d : Int)) && in64 (d / (Int.gcd (n.natAbs : Int) d : Int))) := by
  have hg := gcd_pos (n := n) hd
  have dv : (Int.gcd n d : Int) ∣ n := Int.gcd_dvd_left n d
  have a1 : 0 ≤ (n.natAbs : Int) / (Int.gcd n d : Int) := Int.ediv_nonneg (by omega) (by omega)
  have a2 : 0 ≤ d / (Int.gcd n d : Int) := Int.ediv_nonneg (by omega) (by omega)
  unfold fitq
  rw [gcd_abs, in64_pos a1, in64_pos a2, dI_num hd, dI_den hd]
  rw [abs_div n hg dv] at a1 ⊢
  have sg : (n < 0 → n / (Int.gcd n d : Int) ≤ 0) ∧ (¬ n < 0 → 0 ≤ n / (Int.gcd n d : Int)) := by
    refine ⟨fun h => ?_, fun h => Int.ediv_nonneg (by omega) (by omega)⟩
    rw [if_pos h] at a1; omega
  generalize n / (Int.gcd n d : Int) = u at *
  generalize d / (Int.gcd n d : Int) = v at *
  rw [Bool.eq_iff_iff]
  simp only [Bool.and_eq_true, decide_eq_true_eq]
  split at * <;> omega
theorem red_no {n d : Int} (hd : 0 < d) (h : in64 ((n.natAbs : Int) / (Int.gcd (n.natAbs : Int) d : Int)) = false ∨ in64 (d / (Int.gcd (n.natAbs : Int) d : Int)) = false) :
    (0 : Int) = qn (Rat.divInt n d) ∧ (0 : Int) = qd (Rat.divInt n d) ∧ (2 : Int) = qe (Rat.divInt n d) := by
  have : fitq (Rat.divInt n d) = false := by
    rw [fit_red hd]
    rcases h with h | h <;> rw [h] <;> simp
  unfold qn qd qe
  rw [this]; simp
theorem in64_true {x : Int} (h : in64 x = true) : -9223372036854775808 ≤ x ∧ x ≤ 9223372036854775807 := by unfold in64 at h; simpa using h
theorem red_yes {n d : Int} (hd : 0 < d) (h1 : in64 ((n.natAbs : Int) / (Int.gcd (n.natAbs : Int) d : Int)) = true) (h2 : in64 (d / (Int.gcd (n.natAbs : Int) d : Int)) = true) :
    (n < 0 → 0 - s64 ((n.natAbs : Int) / (Int.gcd (n.natAbs : Int) d : Int)) = qn (Rat.divInt n d)) ∧ (¬ n < 0 → s64 ((n.natAbs : Int) / (Int.gcd (n.natAbs : Int) d : Int)) = qn (Rat.divInt n d)) ∧
      s64 (d / (Int.gcd (n.natAbs : Int) d : Int)) = qd (Rat.divInt n d) ∧ (0 : Int) = qe (Rat.divInt n d) := by
  have : fitq (Rat.divInt n d) = true := by rw [fit_red hd, h1, h2]; rfl
  have b1 := in64_true h1
  have b2 := in64_true h2
  unfold qn qd qe
  rw [if_pos this, if_pos this, if_pos this, dI_num hd, dI_den hd, s64_id b1.1 b1.2, s64_id b2.1 b2.2, gcd_abs, abs_div n (gcd_pos hd) (Int.gcd_dvd_left n d)]
  refine ⟨fun h => by rw [if_pos h]; omega, fun h => by rw [if_neg h], rfl, rfl⟩
theorem qn_bd (q : Rat) : -9223372036854775807 ≤ qn q ∧ qn q ≤ 9223372036854775807 := by
  unfold qn
  split
  · rename_i h; unfold fitq at h; simp only [Bool.and_eq_true, decide_eq_true_eq] at h; omega
  · decide
theorem qd_bd (q : Rat) : 0 ≤ qd q ∧ qd q ≤ 9223372036854775807 := by
  unfold qd
  split
  · rename_i h; unfold fitq at h; simp only [Bool.and_eq_true, decide_eq_true_eq] at h; omega
  · decide
theorem fn_bd {n d : Int} (h0 : -9223372036854775808 ≤ n) (h1 : n ≤ 9223372036854775807) : -9223372036854775807 ≤ fn n d ∧ fn n d ≤ 9223372036854775807 := by
  unfold fn
  split
  · rename_i h; unfold gd at h; simp only [Bool.and_eq_true, decide_eq_true_eq] at h; omega
  · decide
theorem fd_bd {n d : Int} (h1 : d ≤ 9223372036854775807) : 0 < fd n d ∧ fd n d ≤ 9223372036854775807 := by
  refine ⟨fd_pos n d, ?_⟩
  unfold fd
  split <;> omega
/-! arithmetic with the values -/
theorem rv_add (a b c d : Int) : Rat.divInt (fn a b * fd c d + fn c d * fd a b) (fd a b * fd c d) = rv a b + rv c d := by
  have h1 := fd_pos a b
  have h2 := fd_pos c d
  unfold rv
  rw [Rat.divInt_add_divInt _ _ (by omega) (by omega)]
theorem rv_mul (a b c d : Int) : Rat.divInt (fn a b * fn c d) (fd a b * fd c d) = rv a b * rv c d := by
  unfold rv
  rw [Rat.divInt_mul_divInt]
theorem rv_neg (a b : Int) : Rat.divInt (-fn a b) (fd a b) = -rv a b := by
  unfold rv
  rw [Rat.neg_divInt]
theorem rv_zero (a b : Int) : rv a b = 0 ↔ fn a b = 0 := by
  unfold rv
  have := fd_pos a b
  constructor
  · intro h
    rw [← Rat.num_eq_zero, dI_num (by omega)] at h
    have e := f_cop a b
    have g : Int.gcd (fn a b) (fd a b) = 1 := e
    rw [g] at h; simpa using h
  · intro h; rw [h, Rat.zero_divInt]
def dvn (a b : Rat) : Int := if b = 0 then 0 else qn (a / b)
def dvd (a b : Rat) : Int := if b = 0 then 0 else qd (a / b)
def dve (a b : Rat) : Int := if b = 0 then 12 else qe (a / b)
theorem div_int (n d : Int) : Rat.divInt n d = (n : Rat) / (d : Rat) := Rat.divInt_eq_div n d
theorem fits_rv {a b : Int} (h0 : -9223372036854775808 ≤ a) (h1 : a ≤ 9223372036854775807) (h2 : b ≤ 9223372036854775807) : fitq (rv a b) = true := by
  have x := fn_bd (d := b) h0 h1
  have y := fd_bd (n := a) h2
  unfold fitq
  rw [rv_num, rv_den]
  simp; omega
theorem qn_rv {a b : Int} (h0 : -9223372036854775808 ≤ a) (h1 : a ≤ 9223372036854775807) (h2 : b ≤ 9223372036854775807) : qn (rv a b) = fn a b ∧ qd (rv a b) = fd a b ∧ qe (rv a b) = 0 := by
  unfold qn qd qe
  rw [if_pos (fits_rv h0 h1 h2), if_pos (fits_rv h0 h1 h2), if_pos (fits_rv h0 h1 h2), rv_num, rv_den]
  exact ⟨rfl, rfl, rfl⟩
/-- the value of a result -/
def rq (q : Rat) : Rat := if fitq q = true then q else 0
theorem rv_q (q : Rat) : rv (qn q) (qd q) = rq q := by
  unfold rq qn qd
  split
  · rename_i h
    have g : gd q.num q.den = true := by
      unfold fitq at h
      simp only [Bool.and_eq_true, decide_eq_true_eq] at h
      have dp := q.den_pos
      unfold gd
      simp only [Bool.and_eq_true, decide_eq_true_eq]
      refine ⟨by omega, by omega, ?_⟩
      rw [Int.natAbs_natCast]; exact q.reduced
    unfold rv fn fd
    rw [if_pos g, if_pos g, Rat.divInt_ofNat, Rat.mkRat_self]
  · decide +kernel
theorem rv_floor (a b : Int) : (rv a b).floor = fn a b / fd a b := by
  unfold Rat.floor
  have e1 := rv_num a b
  have e2 := rv_den a b
  split
  · rename_i h
    have : fd a b = 1 := by omega
    rw [e1, this, Int.ediv_one]
  · rw [e1, e2]
def rcmp (a b : Rat) : Int := if a < b then -1 else if b < a then 1 else 0
theorem rv_lt (a b c d : Int) : rv a b < rv c d ↔ fn a b * fd c d < fn c d * fd a b := by
  rw [Rat.lt_iff, rv_num, rv_num, rv_den, rv_den]
theorem rv_cmp (a b c d : Int) : sgn (fn a b * fd c d - fn c d * fd a b) = rcmp (rv a b) (rv c d) := by
  unfold sgn rcmp
  simp only [rv_lt]
  (repeat' split) <;> omega
theorem rv_cmp' (a b c d : Int) : cmp (fn a b * fd c d) (fn c d * fd a b) = rcmp (rv a b) (rv c d) := by
  unfold cmp rcmp
  simp only [rv_lt]
/-! the document's walks -/
theorem gcd_le {n d : Int} (hd : 0 < d) : (Int.gcd n d : Int) ≤ d := by
  have : (Int.gcd n d : Int) ∣ d := Int.gcd_dvd_right n d
  exact Int.le_of_dvd hd this
theorem quo_bd {a b : Int} (h : 0 ≤ a) (hb : 0 < b) : 0 ≤ a / b ∧ a / b ≤ a := ⟨Int.ediv_nonneg h (by omega), Int.ediv_le_self b h⟩
theorem gcd_dig {n d : Int} (hd : 0 < d) (h1 : d ≤ 9223372036854775807) :
    ((dgt (Int.gcd (n.natAbs : Int) d : Int) 0 == dgt 1 0) && ((dgt (Int.gcd (n.natAbs : Int) d : Int) 1 == dgt 1 1) && ((dgt (Int.gcd (n.natAbs : Int) d : Int) 2 == dgt 1 2) && ((dgt (Int.gcd (n.natAbs : Int) d : Int) 3 == dgt 1 3) && ((dgt (Int.gcd (n.natAbs : Int) d : Int) 4 == dgt 1 4) && ((dgt (Int.gcd (n.natAbs : Int) d : Int) 5 == dgt 1 5) && ((dgt (Int.gcd (n.natAbs : Int) d : Int) 6 == dgt 1 6) && true))))))) = decide (Nat.gcd n.natAbs d.natAbs = 1) := by
  have g0 := gcd_pos (n := (n.natAbs : Int)) hd
  have g1 := gcd_le (n := (n.natAbs : Int)) hd
  rw [eq_dig (by omega) (by omega), decide_eq_decide, gcd_abs]
  unfold Int.gcd
  omega
theorem neq_min {n : Int} (h : -9223372036854775808 ≤ n) : (n != -9223372036854775808) = decide (-9223372036854775808 < n) := by
  rw [Bool.eq_iff_iff, bne_iff_ne, decide_eq_true_eq]; omega
theorem ceil_eq {x y : Int} (hy : 0 < y) : -((-x + y - 1) / y) = x / y := by
  have e := Int.emod_add_mul_ediv x y
  have r0 := Int.emod_nonneg x (show y ≠ 0 by omega)
  have r1 := Int.emod_lt_of_pos x hy
  have e2 : -x + y - 1 = (y - 1 - x % y) + y * (-(x / y)) := by
    generalize x % y = r at *
    generalize x / y = q at *
    subst e; grind
  rw [e2, Int.add_mul_ediv_left _ _ (by omega), Int.ediv_eq_zero_of_lt (by omega) (by omega)]
  omega
theorem ediv_bd {x y M : Int} (hy : 0 < y) (h0 : -M ≤ x) (h1 : x ≤ M) : -M ≤ x / y ∧ x / y ≤ M := by
  have e := Int.emod_add_mul_ediv x y
  have r0 := Int.emod_nonneg x (show y ≠ 0 by omega)
  have r1 := Int.emod_lt_of_pos x hy
  generalize x % y = r at *
  generalize x / y = q at *
  constructor
  · rcases Int.lt_or_le q (-M) with h | h
    · exfalso
      have : y * q ≤ y * (-M - 1) := Int.mul_le_mul_of_nonneg_left (by omega) (by omega)
      have e3 : y * (-M - 1) = - (y * (M + 1)) := by grind
      have hM : 0 ≤ M := by omega
      have : 1 * (M + 1) ≤ y * (M + 1) := Int.mul_le_mul_of_nonneg_right (by omega) (by omega)
      have : y * M ≥ 1 * M := Int.mul_le_mul_of_nonneg_right (by omega) (by omega)
      have e4 : y * (M + 1) = y * M + y := by grind
      omega
    · exact h
  · rcases Int.lt_or_le M q with h | h
    · exfalso
      have hM : 0 ≤ M := by omega
      have : y * (M + 1) ≤ y * q := Int.mul_le_mul_of_nonneg_left (by omega) (by omega)
      have : 1 * (M + 1) ≤ y * (M + 1) := Int.mul_le_mul_of_nonneg_right (by omega) (by omega)
      omega
    · exact h
theorem floor_bd {a b : Int} (h0 : -9223372036854775808 ≤ a) (h1 : a ≤ 9223372036854775807) : -9223372036854775807 ≤ (rv a b).floor ∧ (rv a b).floor ≤ 9223372036854775807 := by
  rw [rv_floor]
  have := fn_bd (d := b) h0 h1
  exact ediv_bd (fd_pos a b) this.1 this.2
theorem down_neg {a b : Int} (h0 : -9223372036854775808 ≤ a) (h1 : a ≤ 9223372036854775807) : s64 (-((-fn a b + fd a b - 1) / fd a b)) = (rv a b).floor := by
  have := floor_bd (b := b) h0 h1
  rw [ceil_eq (fd_pos a b), ← rv_floor, s64_id (by omega) (by omega)]
theorem down_pos {a b : Int} (h0 : -9223372036854775808 ≤ a) (h1 : a ≤ 9223372036854775807) : s64 (fn a b / fd a b) = (rv a b).floor := by
  have := floor_bd (b := b) h0 h1
  rw [← rv_floor, s64_id (by omega) (by omega)]
theorem floor_rest (a b : Int) : fn a b - (rv a b).floor * fd a b = fn a b % fd a b ∧ 0 ≤ fn a b % fd a b ∧ fn a b % fd a b < fd a b := by
  have hy := fd_pos a b
  have e := Int.emod_add_mul_ediv (fn a b) (fd a b)
  rw [rv_floor]
  refine ⟨?_, Int.emod_nonneg _ (by omega), Int.emod_lt_of_pos _ hy⟩
  rw [Int.mul_comm]; omega
/-- the nearest whole number -/
def rnd (q : Rat) : Int := if (q.den : Int) ≤ 2 * (q.num % q.den) then q.floor + 1 else q.floor
theorem rnd_rv (a b : Int) : rnd (rv a b) = if fd a b ≤ 2 * (fn a b % fd a b) then (rv a b).floor + 1 else (rv a b).floor := by
  unfold rnd; rw [rv_num, rv_den]
theorem up_bd {a b : Int} (h0 : -9223372036854775808 ≤ a) (h1 : a ≤ 9223372036854775807) (h : fd a b ≤ 2 * (fn a b % fd a b)) : (rv a b).floor + 1 ≤ 9223372036854775807 := by
  have f := floor_rest a b
  have c := fn_bd (d := b) h0 h1
  have hy := fd_pos a b
  have h2 : 2 ≤ fd a b := by omega
  rcases Int.lt_or_le (rv a b).floor 1 with h3 | h3
  · omega
  · have : (rv a b).floor * 2 ≤ (rv a b).floor * fd a b := Int.mul_le_mul_of_nonneg_left h2 (by omega)
    omega
end Go.Proofs.Ytigllakcfdoagaa.Am.Sp
