import Derived.Test.YtigllakcfdoagaaNb6
namespace Go.Proofs.Ytigllakcfdoagaa.Am.Sp
/-! Numbers of 128 bits -/
def wh (n : Int) : Int := s64 (n / 18446744073709551616)
def wl (n : Int) : Int := n % 18446744073709551616
theorem s64_any (n : Int) : IntKind.wrap .i64 n = s64 n := by rw [IntKind.wrap_i64]; unfold s64; omega
theorem and_low {x : Int} (h0 : 0 ≤ x) (h1 : x ≤ 18446744073709551615) : IntKind.wrap .u64 ((BitVec.ofInt 64 x &&& BitVec.ofInt 64 4294967295).toNat : Int) = x % 4294967296 := by
  rw [wrapbv, BitVec.toNat_and, bvn h0 (by omega), bvn (by decide) (by decide)]
  obtain ⟨a, rfl⟩ : ∃ a : Nat, x = a := ⟨x.toNat, by omega⟩
  have e : a &&& (2 ^ 32 - 1) = a % 2 ^ 32 := Nat.and_two_pow_sub_one_eq_mod a 32
  have e2 : (4294967295 : Int).toNat = 2 ^ 32 - 1 := by decide
  rw [e2, Int.toNat_natCast, e]; omega
theorem mul_nn {a b A B : Int} (h0 : 0 ≤ a) (h1 : a ≤ A) (h2 : 0 ≤ b) (h3 : b ≤ B) : 0 ≤ a * b ∧ a * b ≤ A * B :=
  ⟨Int.mul_nonneg h0 h2, Int.mul_le_mul h1 h3 h2 (by omega)⟩
theorem mul64_parts {m n : Int} (h0 : 0 ≤ m) (h1 : m ≤ 18446744073709551615) (h2 : 0 ≤ n) (h3 : n ≤ 18446744073709551615) :
    (0 ≤ (m % 4294967296) * (n % 4294967296) ∧ (m % 4294967296) * (n % 4294967296) ≤ 18446744065119617025) ∧ (0 ≤ (m / 4294967296) * (n % 4294967296) ∧ (m / 4294967296) * (n % 4294967296) ≤ 18446744065119617025) ∧
    (0 ≤ (m % 4294967296) * (n / 4294967296) ∧ (m % 4294967296) * (n / 4294967296) ≤ 18446744065119617025) ∧ (0 ≤ (m / 4294967296) * (n / 4294967296) ∧ (m / 4294967296) * (n / 4294967296) ≤ 18446744065119617025) ∧
    m * n = (m / 4294967296) * (n / 4294967296) * 18446744073709551616 + ((m / 4294967296) * (n % 4294967296) + (m % 4294967296) * (n / 4294967296)) * 4294967296 + (m % 4294967296) * (n % 4294967296) := by
  have a0 : 0 ≤ m % 4294967296 ∧ m % 4294967296 ≤ 4294967295 := by omega
  have a1 : 0 ≤ m / 4294967296 ∧ m / 4294967296 ≤ 4294967295 := by omega
  have b0 : 0 ≤ n % 4294967296 ∧ n % 4294967296 ≤ 4294967295 := by omega
  have b1 : 0 ≤ n / 4294967296 ∧ n / 4294967296 ≤ 4294967295 := by omega
  refine ⟨mul_nn a0.1 a0.2 b0.1 b0.2, mul_nn a1.1 a1.2 b0.1 b0.2, mul_nn a0.1 a0.2 b1.1 b1.2, mul_nn a1.1 a1.2 b1.1 b1.2, ?_⟩
  have em : m = m / 4294967296 * 4294967296 + m % 4294967296 := by omega
  have en : n = n / 4294967296 * 4294967296 + n % 4294967296 := by omega
  generalize m / 4294967296 = p at *
  generalize m % 4294967296 = q at *
  generalize n / 4294967296 = r at *
  generalize n % 4294967296 = s at *
  subst em; subst en; grind
theorem ab_parts {a b : Int} (h0 : -9223372036854775808 ≤ a) (h1 : a ≤ 9223372036854775807) (h2 : -9223372036854775808 ≤ b) (h3 : b ≤ 9223372036854775807) :
    a * b = (a % 18446744073709551616) * (b % 18446744073709551616) - 18446744073709551616 * ((if a < 0 then b % 18446744073709551616 else 0) + (if b < 0 then a % 18446744073709551616 else 0)) + (if a < 0 ∧ b < 0 then 340282366920938463463374607431768211456 else 0) ∧
      0 ≤ (a % 18446744073709551616) * (b % 18446744073709551616) := by
  refine ⟨?_, Int.mul_nonneg (by omega) (by omega)⟩
  by_cases ha : a < 0
  · have ea : a % 18446744073709551616 = a + 18446744073709551616 := by omega
    by_cases hb : b < 0
    · have eb : b % 18446744073709551616 = b + 18446744073709551616 := by omega
      rw [if_pos ha, if_pos hb, if_pos ⟨ha, hb⟩, ea, eb]; grind
    · have eb : b % 18446744073709551616 = b := by omega
      rw [if_pos ha, if_neg hb, if_neg (by omega), ea, eb]; grind
  · have ea : a % 18446744073709551616 = a := by omega
    by_cases hb : b < 0
    · have eb : b % 18446744073709551616 = b + 18446744073709551616 := by omega
      rw [if_neg ha, if_pos hb, if_neg (by omega), ea, eb]; grind
    · have eb : b % 18446744073709551616 = b := by omega
      rw [if_neg ha, if_neg hb, if_neg (by omega), ea, eb]; omega
def shN (n : Int) : Int := if in64 n = true then n else 0
def shE (n : Int) : Int := if in64 n = true then 0 else 2
theorem sh_no {n : Int} (h : ¬ in64 n = true) : (0 : Int) = shN n ∧ (2 : Int) = shE n := by unfold shN shE; rw [if_neg h, if_neg h]; exact ⟨rfl, rfl⟩
theorem sh_yes {n : Int} (h : in64 n = true) : s64 n = shN n ∧ (0 : Int) = shE n := by
  unfold shN shE; rw [if_pos h, if_pos h]
  have := in64_true h
  exact ⟨s64_id this.1 this.2, rfl⟩
theorem shN_bd (n : Int) : -9223372036854775808 ≤ shN n ∧ shN n ≤ 9223372036854775807 := by
  unfold shN; split
  · rename_i h; exact in64_true h
  · decide
theorem in64_iff (n : Int) : in64 n = true ↔ -9223372036854775808 ≤ n ∧ n ≤ 9223372036854775807 := by unfold in64; simp
theorem short_neq {n : Int} (h0 : -170141183460469231731687303715884105728 ≤ n) (h1 : n < 170141183460469231731687303715884105728) :
    (!((wh n == wh (s64 n)) && ((wl n == wl (s64 n)) && true))) = !(in64 n) := by
  congr 1
  rw [Bool.eq_iff_iff, in64_iff]
  simp only [Bool.and_eq_true, beq_iff_eq, and_true]
  have b := s64_bd n
  unfold wh wl
  rw [s64_id (n := n / 18446744073709551616) (by omega) (by omega), s64_id (n := s64 n / 18446744073709551616) (by omega) (by omega)]
  unfold s64 at *
  omega
theorem shE_ne (n : Int) : (shE n != 0) = !(in64 n) := by
  unfold shE
  cases h : in64 n <;> simp
theorem shN_min (n : Int) : (shN n == -9223372036854775808) = decide (n = -9223372036854775808) := by
  rw [Bool.eq_iff_iff, beq_iff_eq, decide_eq_true_eq]
  unfold shN
  split
  · rfl
  · rename_i h; rw [in64_iff] at h; omega
def prOk (x y : Int) : Bool := in64 x && (in64 y && decide (x ≠ -9223372036854775808))
def prN (x y : Int) : Int := if prOk x y = true then x else 0
def prD (x y : Int) : Int := if prOk x y = true then y else 0
def prE (x y : Int) : Int := if prOk x y = true then 0 else 2
theorem pr_no {x y : Int} (h : ¬ in64 x = true ∨ ¬ in64 y = true ∨ x = -9223372036854775808) : (0 : Int) = prN x y ∧ (0 : Int) = prD x y ∧ (2 : Int) = prE x y := by
  have : ¬ prOk x y = true := by
    unfold prOk; simp only [Bool.and_eq_true, decide_eq_true_eq]
    rintro ⟨h1, h2, h3⟩
    rcases h with h | h | h
    · exact h h1
    · exact h h2
    · exact h3 h
  unfold prN prD prE
  rw [if_neg this, if_neg this, if_neg this]; exact ⟨rfl, rfl, rfl⟩
theorem pr_yes {x y : Int} (h1 : in64 x = true) (h2 : in64 y = true) (h3 : ¬ x = -9223372036854775808) : shN x = prN x y ∧ shN y = prD x y ∧ (0 : Int) = prE x y := by
  have : prOk x y = true := by unfold prOk; rw [h1, h2]; simpa using h3
  unfold prN prD prE shN
  rw [if_pos this, if_pos this, if_pos this, if_pos h1, if_pos h2]; exact ⟨rfl, rfl, rfl⟩
/-! The program's fractions -/
theorem gcd_step {a b : Int} (ha : 0 ≤ a) (hb : 0 ≤ b) : Int.gcd b (a % b) = Int.gcd a b := by
  obtain ⟨x, rfl⟩ : ∃ x : Nat, a = x := ⟨a.toNat, by omega⟩
  obtain ⟨y, rfl⟩ : ∃ y : Nat, b = y := ⟨b.toNat, by omega⟩
  have e : ((x : Int) % (y : Int)) = ((x % y : Nat) : Int) := by simp
  rw [e]
  show Nat.gcd y (x % y) = Nat.gcd x y
  rw [Nat.gcd_comm, ← Nat.gcd_rec, Nat.gcd_comm]
theorem emod_lt {a b : Int} (hb : 0 < b) : 0 ≤ a % b ∧ a % b < b := ⟨Int.emod_nonneg _ (by omega), Int.emod_lt_of_pos _ hb⟩
theorem tdiv_neg' {n d : Int} (hd : 0 < d) (h : Int.tmod n d < 0) : Int.tdiv n d - 1 = n / d ∧ Int.tmod n d + d = n % d := by
  have e1 := Int.mul_tdiv_add_tmod n d
  have e2 := Int.emod_add_mul_ediv n d
  have b := emod_lt (a := n) hd
  have h2 := below_neg hd h
  refine ⟨?_, h2⟩
  have e3 : d * (Int.tdiv n d - 1) = d * (n / d) := by
    rw [Int.mul_sub, Int.mul_one]; omega
  exact Int.eq_of_mul_eq_mul_left (by omega) e3
theorem tdiv_pos' {n d : Int} (hd : 0 < d) (h : ¬ Int.tmod n d < 0) : Int.tdiv n d = n / d ∧ Int.tmod n d = n % d := by
  have e1 := Int.mul_tdiv_add_tmod n d
  have e2 := Int.emod_add_mul_ediv n d
  have h2 := below_pos hd h
  refine ⟨?_, h2⟩
  have e3 : d * Int.tdiv n d = d * (n / d) := by omega
  exact Int.eq_of_mul_eq_mul_left (by omega) e3
theorem tdiv_bd {n d : Int} (hd : 0 < d) (h0 : -9223372036854775808 ≤ n) (h1 : n ≤ 9223372036854775807) : -9223372036854775808 ≤ Int.tdiv n d ∧ Int.tdiv n d ≤ 9223372036854775807 := by
  rcases Int.lt_or_le 1 d with h | h
  · exact tdiv_in ⟨h0, h1⟩ h
  · obtain rfl : d = 1 := by omega
    rw [Int.tdiv_one]; exact ⟨h0, h1⟩
theorem quo_dvd {a g : Int} (hg : 0 < g) (dv : g ∣ a) (h0 : -9223372036854775807 ≤ a) (h1 : a ≤ 9223372036854775807) : IntKind.wrap .i64 (Int.tdiv a g) = a / g := by
  rw [Int.tdiv_eq_ediv_of_dvd dv]
  have := ediv_bd hg h0 h1
  exact wrap_i64 (by omega) (by omega)
/-! Make -/
def sgOk (x y : Int) : Bool := decide (x ≤ 9223372036854775807) && decide (y ≤ 9223372036854775807)
def sgN (b : Bool) (x y : Int) : Int := if sgOk x y = true then (if b = true then -x else x) else 0
def sgD (x y : Int) : Int := if sgOk x y = true then y else 0
def sgE (x y : Int) : Int := if sgOk x y = true then 0 else 2
theorem sg_no (b : Bool) {x y : Int} (h : x > 9223372036854775807 ∨ y > 9223372036854775807) : (0 : Int) = sgN b x y ∧ (0 : Int) = sgD x y ∧ (2 : Int) = sgE x y := by
  have : ¬ sgOk x y = true := by unfold sgOk; simp only [Bool.and_eq_true, decide_eq_true_eq]; omega
  unfold sgN sgD sgE
  rw [if_neg this, if_neg this, if_neg this]; exact ⟨rfl, rfl, rfl⟩
theorem sg_yes {x y : Int} (h1 : ¬ x > 9223372036854775807) (h2 : ¬ y > 9223372036854775807) : 0 - x = sgN true x y ∧ x = sgN false x y ∧ y = sgD x y ∧ (0 : Int) = sgE x y := by
  have : sgOk x y = true := by unfold sgOk; simp only [Bool.and_eq_true, decide_eq_true_eq]; omega
  unfold sgN sgD sgE
  rw [if_pos this, if_pos this, if_pos this, if_pos this]
  refine ⟨?_, ?_, rfl, rfl⟩
  · rw [if_pos rfl]; omega
  · rw [if_neg (by decide)]
/-- the quotient of two whole numbers in parts without sign -/
theorem div_parts {n d : Int} (hd : d ≠ 0) : ((n : Rat) / (d : Rat)).num = (if (¬ (n < 0 ↔ d < 0)) ∧ n ≠ 0 then -((n.natAbs : Int) / (Int.gcd n d : Int)) else (n.natAbs : Int) / (Int.gcd n d : Int)) ∧ ((((n : Rat) / (d : Rat)).den : Nat) : Int) = (d.natAbs : Int) / (Int.gcd n d : Int) := by
  rw [← div_int]
  have gp : 0 < (Int.gcd n d : Int) := by
    have : 0 < Int.gcd n d := Int.gcd_pos_of_ne_zero_right n hd
    omega
  have an := abs_div n gp (Int.gcd_dvd_left n d)
  rcases Int.lt_or_le d 0 with h | h
  · have e : Rat.divInt n d = Rat.divInt (-n) (-d) := (Rat.neg_divInt_neg n d).symm
    have g : Int.gcd (-n) (-d) = Int.gcd n d := by simp
    rw [e, dI_num (by omega), dI_den (by omega), g, an]
    refine ⟨?_, ?_⟩
    · have en : -n / (Int.gcd n d : Int) = -(n / (Int.gcd n d : Int)) := Int.neg_ediv_of_dvd (Int.gcd_dvd_left n d)
      rw [en]
      have z : n = 0 → n / (Int.gcd n d : Int) = 0 := fun h => by rw [h]; simp
      generalize n / (Int.gcd n d : Int) = q at *
      (repeat' split) <;> omega
    · congr 1; omega
  · rw [dI_num (by omega), dI_den (by omega), an]
    refine ⟨?_, ?_⟩
    · have z : n = 0 → n / (Int.gcd n d : Int) = 0 := fun h => by rw [h]; simp
      generalize n / (Int.gcd n d : Int) = q at *
      (repeat' split) <;> omega
    · congr 1; omega
theorem cast_ne {d : Int} (hd : d ≠ 0) : ((d : Rat)) ≠ 0 := fun h => hd (Rat.intCast_eq_zero_iff.1 h)
theorem make_leaf {n d : Int} {b : Bool} (hd : d ≠ 0) (hb : b = true ↔ (¬ (n < 0 ↔ d < 0)) ∧ n ≠ 0) :
    sgN b ((n.natAbs : Int) / (Int.gcd n d : Int)) ((d.natAbs : Int) / (Int.gcd n d : Int)) = dvn n d ∧ sgD ((n.natAbs : Int) / (Int.gcd n d : Int)) ((d.natAbs : Int) / (Int.gcd n d : Int)) = dvd n d ∧
      sgE ((n.natAbs : Int) / (Int.gcd n d : Int)) ((d.natAbs : Int) / (Int.gcd n d : Int)) = dve n d := by
  have hz := cast_ne hd
  have p := div_parts (n := n) hd
  unfold dvn dvd dve
  rw [if_neg hz, if_neg hz, if_neg hz]
  have gp : 0 < (Int.gcd n d : Int) := by
    have : 0 < Int.gcd n d := Int.gcd_pos_of_ne_zero_right n hd
    omega
  have xn : 0 ≤ (n.natAbs : Int) / (Int.gcd n d : Int) := Int.ediv_nonneg (by omega) (by omega)
  have ok : sgOk ((n.natAbs : Int) / (Int.gcd n d : Int)) ((d.natAbs : Int) / (Int.gcd n d : Int)) = fitq ((n : Rat) / (d : Rat)) := by
    unfold sgOk fitq
    rw [p.1, p.2, Bool.eq_iff_iff]
    simp only [Bool.and_eq_true, decide_eq_true_eq]
    split <;> omega
  unfold sgN sgD sgE qn qd qe
  rw [ok, p.1, p.2]
  refine ⟨?_, rfl, rfl⟩
  by_cases hq : fitq ((n : Rat) / (d : Rat)) = true
  · rw [if_pos hq, if_pos hq]
    by_cases hb' : b = true
    · rw [if_pos hb', if_pos (hb.1 hb')]
    · rw [if_neg hb', if_neg (fun h => hb' (hb.2 h))]
  · rw [if_neg hq, if_neg hq]
theorem make_zero (n : Rat) : (0 : Int) = dvn n 0 ∧ (0 : Int) = dvd n 0 ∧ (12 : Int) = dve n 0 := by unfold dvn dvd dve; simp
theorem ratio_leaf {n d : Int} (hd : d ≠ 0) : qn (Rat.divInt n d) = dvn n d ∧ qd (Rat.divInt n d) = dvd n d ∧ qe (Rat.divInt n d) = dve n d := by
  have hz := cast_ne hd
  unfold dvn dvd dve
  rw [if_neg hz, if_neg hz, if_neg hz, div_int]; exact ⟨rfl, rfl, rfl⟩
theorem ratio_neg (n d : Int) : Rat.divInt (-n) (-d) = Rat.divInt n d := Rat.neg_divInt_neg n d
/-! Mul and Div -/
theorem cop_nat {a b : Nat} (h : Nat.gcd a b = 1) : Nat.Coprime a b := h
theorem mul_num {a b c d : Int} (hb : 0 < b) (hd : 0 < d) (h1 : Nat.gcd a.natAbs b.natAbs = 1) (h2 : Nat.gcd c.natAbs d.natAbs = 1) :
    (Rat.divInt (a * c) (b * d)).num = (a / (Int.gcd a d : Int)) * (c / (Int.gcd c b : Int)) ∧ ((Rat.divInt (a * c) (b * d)).den : Int) = (b / (Int.gcd c b : Int)) * (d / (Int.gcd a d : Int)) := by
  have gp := gcd_pos (n := a) hd
  have hp := gcd_pos (n := c) hb
  obtain ⟨a', ea⟩ : (Int.gcd a d : Int) ∣ a := Int.gcd_dvd_left a d
  obtain ⟨d', ed⟩ : (Int.gcd a d : Int) ∣ d := Int.gcd_dvd_right a d
  obtain ⟨c', ec⟩ : (Int.gcd c b : Int) ∣ c := Int.gcd_dvd_left c b
  obtain ⟨b', eb⟩ : (Int.gcd c b : Int) ∣ b := Int.gcd_dvd_right c b
  have qa : a / (Int.gcd a d : Int) = a' := by conv => lhs; arg 1; rw [ea]
                                               exact Int.mul_ediv_cancel_left _ (by omega)
  have qd' : d / (Int.gcd a d : Int) = d' := by conv => lhs; arg 1; rw [ed]
                                                exact Int.mul_ediv_cancel_left _ (by omega)
  have qc : c / (Int.gcd c b : Int) = c' := by conv => lhs; arg 1; rw [ec]
                                               exact Int.mul_ediv_cancel_left _ (by omega)
  have qb : b / (Int.gcd c b : Int) = b' := by conv => lhs; arg 1; rw [eb]
                                               exact Int.mul_ediv_cancel_left _ (by omega)
  rw [qa, qd', qc, qb]
  have c1 : Nat.Coprime a'.natAbs d'.natAbs := by
    have := Int.gcd_ediv_gcd_ediv_gcd (i := a) (j := d) (by omega)
    rw [qa, qd'] at this; exact this
  have c2 : Nat.Coprime c'.natAbs b'.natAbs := by
    have := Int.gcd_ediv_gcd_ediv_gcd (i := c) (j := b) (by omega)
    rw [qc, qb] at this; exact this
  have na : a.natAbs = (Int.gcd a d) * a'.natAbs := by conv => lhs; rw [ea, Int.natAbs_mul, Int.natAbs_natCast]
  have nb : b.natAbs = (Int.gcd c b) * b'.natAbs := by conv => lhs; rw [eb, Int.natAbs_mul, Int.natAbs_natCast]
  have nc : c.natAbs = (Int.gcd c b) * c'.natAbs := by conv => lhs; rw [ec, Int.natAbs_mul, Int.natAbs_natCast]
  have nd : d.natAbs = (Int.gcd a d) * d'.natAbs := by conv => lhs; rw [ed, Int.natAbs_mul, Int.natAbs_natCast]
  have c3 : Nat.Coprime a'.natAbs b'.natAbs := by
    have := cop_nat h1
    rw [na, nb] at this
    exact (Nat.Coprime.coprime_mul_left this).coprime_mul_left_right
  have c4 : Nat.Coprime c'.natAbs d'.natAbs := by
    have := cop_nat h2
    rw [nc, nd] at this
    exact (Nat.Coprime.coprime_mul_left this).coprime_mul_left_right
  have hb' : 0 < b' := by
    rcases Int.lt_or_le 0 b' with h | h
    · exact h
    · have := Int.mul_le_mul_of_nonneg_left h (Int.le_of_lt hp); omega
  have hd' : 0 < d' := by
    rcases Int.lt_or_le 0 d' with h | h
    · exact h
    · have := Int.mul_le_mul_of_nonneg_left h (Int.le_of_lt gp); omega
  refine red_uniq (Int.mul_pos hb hd) (Int.mul_pos hb' hd') ?_ ?_
  · rw [Int.natAbs_mul, Int.natAbs_mul]
    exact Nat.Coprime.mul_left (Nat.Coprime.mul_right c3 c1) (Nat.Coprime.mul_right c2 c4)
  · generalize (Int.gcd a d : Int) = g at *
    generalize (Int.gcd c b : Int) = h at *
    subst ea; subst ed; subst ec; subst eb; grind
theorem pr_fit {x y : Int} {q : Rat} (hn : q.num = x) (hd : (q.den : Int) = y) : prN x y = qn q ∧ prD x y = qd q ∧ prE x y = qe q := by
  have : prOk x y = fitq q := by
    have dp := q.den_pos
    unfold prOk fitq
    rw [Bool.eq_iff_iff]
    simp only [Bool.and_eq_true, in64_iff, decide_eq_true_eq]
    omega
  unfold prN prD prE qn qd qe
  rw [this, hn, hd]; exact ⟨rfl, rfl, rfl⟩
theorem mul_leaf (a b c d : Int) :
    prN ((fn a b / (Int.gcd (fn a b) (fd c d) : Int)) * (fn c d / (Int.gcd (fn c d) (fd a b) : Int))) ((fd a b / (Int.gcd (fn c d) (fd a b) : Int)) * (fd c d / (Int.gcd (fn a b) (fd c d) : Int))) = qn (rv a b * rv c d) ∧
    prD ((fn a b / (Int.gcd (fn a b) (fd c d) : Int)) * (fn c d / (Int.gcd (fn c d) (fd a b) : Int))) ((fd a b / (Int.gcd (fn c d) (fd a b) : Int)) * (fd c d / (Int.gcd (fn a b) (fd c d) : Int))) = qd (rv a b * rv c d) ∧
    prE ((fn a b / (Int.gcd (fn a b) (fd c d) : Int)) * (fn c d / (Int.gcd (fn c d) (fd a b) : Int))) ((fd a b / (Int.gcd (fn c d) (fd a b) : Int)) * (fd c d / (Int.gcd (fn a b) (fd c d) : Int))) = qe (rv a b * rv c d) := by
  have := mul_num (fd_pos a b) (fd_pos c d) (f_cop a b) (f_cop c d)
  rw [rv_mul] at this
  exact pr_fit this.1 this.2
theorem rv_good {n d : Int} (g : gd n d = true) : rv n d = Rat.divInt n d := by unfold rv fn fd; rw [if_pos g, if_pos g]
theorem inv_pos' {a b : Int} (h : 0 < fn a b) (h1 : fd a b ≤ 9223372036854775807) : rv (fd a b) (fn a b) = (rv a b)⁻¹ := by
  have g : gd (fd a b) (fn a b) = true := by
    have := f_cop a b
    have p := fd_pos a b
    unfold gd
    simp only [Bool.and_eq_true, decide_eq_true_eq]
    exact ⟨h, by omega, by rw [Nat.gcd_comm]; exact this⟩
  have e := rv_good g
  rw [e]; unfold rv; rw [Rat.inv_divInt]
theorem inv_neg' {a b : Int} (h : fn a b < 0) (h1 : fd a b ≤ 9223372036854775807) : rv (-fd a b) (-fn a b) = (rv a b)⁻¹ := by
  have g : gd (-fd a b) (-fn a b) = true := by
    have := f_cop a b
    have p := fd_pos a b
    unfold gd
    simp only [Bool.and_eq_true, decide_eq_true_eq]
    exact ⟨by omega, by omega, by rw [Int.natAbs_neg, Int.natAbs_neg, Nat.gcd_comm]; exact this⟩
  have e := rv_good g
  rw [e, Rat.neg_divInt_neg]; unfold rv; rw [Rat.inv_divInt]
theorem div_leaf {a : Rat} {c d : Int} (h : fn c d ≠ 0) : qn (a * (rv c d)⁻¹) = dvn a (rv c d) ∧ qd (a * (rv c d)⁻¹) = dvd a (rv c d) ∧ qe (a * (rv c d)⁻¹) = dve a (rv c d) := by
  have : ¬ rv c d = 0 := fun e => h ((rv_zero c d).1 e)
  unfold dvn dvd dve
  rw [if_neg this, if_neg this, if_neg this, Rat.div_def]; exact ⟨rfl, rfl, rfl⟩
theorem div_zero' {a : Rat} {c d : Int} (h : fn c d = 0) : (0 : Int) = dvn a (rv c d) ∧ (0 : Int) = dvd a (rv c d) ∧ (12 : Int) = dve a (rv c d) := by
  rw [(rv_zero c d).2 h]; exact make_zero a
/-- the document's quotient -/
theorem rdiv_leaf (a b c d : Int) : dvn ((fn a b * fd c d : Int) : Rat) ((fd a b * fn c d : Int) : Rat) = dvn (rv a b) (rv c d) ∧ dvd ((fn a b * fd c d : Int) : Rat) ((fd a b * fn c d : Int) : Rat) = dvd (rv a b) (rv c d) ∧
    dve ((fn a b * fd c d : Int) : Rat) ((fd a b * fn c d : Int) : Rat) = dve (rv a b) (rv c d) := by
  have p := fd_pos a b
  have p2 := fd_pos c d
  have hz : (((fd a b * fn c d : Int) : Rat) = 0) ↔ rv c d = 0 := by
    rw [Rat.intCast_eq_zero_iff, rv_zero, Int.mul_eq_zero]; omega
  have e : ((fn a b * fd c d : Int) : Rat) / ((fd a b * fn c d : Int) : Rat) = rv a b / rv c d := by
    rw [← div_int, Rat.div_def]
    unfold rv
    rw [Rat.inv_divInt, Rat.divInt_mul_divInt]
  unfold dvn dvd dve
  rw [e]
  by_cases h : rv c d = 0
  · rw [if_pos (hz.2 h), if_pos h, if_pos (hz.2 h), if_pos h, if_pos (hz.2 h), if_pos h]; exact ⟨rfl, rfl, rfl⟩
  · rw [if_neg (fun q => h (hz.1 q)), if_neg h, if_neg (fun q => h (hz.1 q)), if_neg h, if_neg (fun q => h (hz.1 q)), if_neg h]; exact ⟨rfl, rfl, rfl⟩
end Go.Proofs.Ytigllakcfdoagaa.Am.Sp
