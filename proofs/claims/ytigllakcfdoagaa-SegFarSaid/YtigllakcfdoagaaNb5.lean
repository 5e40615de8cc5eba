import Derived.Test.YtigllakcfdoagaaNb4
namespace Go.Proofs.Ytigllakcfdoagaa.Am.Sp
/-! Products of numbers of 224 bits -/
theorem mul_dg (m n : Int) (i k : Nat) : 0 ≤ dgt m i * dgt n k ∧ dgt m i * dgt n k ≤ 18446744073709551615 := by
  have a := dgt_bd m i
  have b := dgt_bd n k
  have h1 : 0 ≤ dgt m i * dgt n k := Int.mul_nonneg a.1 b.1
  have h2 : dgt m i * dgt n k ≤ 4294967295 * 4294967295 := Int.mul_le_mul (by omega) (by omega) b.1 (by decide)
  omega
theorem row_first (m n : Int) (i : Nat) : ∃ q, (0 : Int) = dgt m i * (n % 4294967296 ^ 0) * 4294967296 ^ i + 26959946667150639794667015087019630673637144422540572481103610249216 * q := ⟨0, by rw [rest_zero]; simp⟩
theorem row_next {m n r : Int} {i k : Nat} (h : ∃ q, r = dgt m i * (n % 4294967296 ^ k) * 4294967296 ^ i + 26959946667150639794667015087019630673637144422540572481103610249216 * q) :
    ∃ q, r + dgt m i * dgt n k * 4294967296 ^ (i + k) = dgt m i * (n % 4294967296 ^ (k + 1)) * 4294967296 ^ i + 26959946667150639794667015087019630673637144422540572481103610249216 * q := by
  obtain ⟨q, rfl⟩ := h
  refine ⟨q, ?_⟩
  rw [rest_succ, Int.pow_add]
  generalize (4294967296 : Int) ^ i = P
  generalize (4294967296 : Int) ^ k = K
  generalize (26959946667150639794667015087019630673637144422540572481103610249216 : Int) = W
  grind
theorem row_last {m n r : Int} {i k : Nat} (hk : i + k = 6) (h : ∃ q, r = dgt m i * (n % 4294967296 ^ k) * 4294967296 ^ i + 26959946667150639794667015087019630673637144422540572481103610249216 * q) :
    ∃ q, r + dgt m i * dgt n k % 4294967296 * 4294967296 ^ (i + k) = dgt m i * (n % 4294967296 ^ (k + 1)) * 4294967296 ^ i + 26959946667150639794667015087019630673637144422540572481103610249216 * q := by
  obtain ⟨q, hq⟩ := row_next h
  refine ⟨q - dgt m i * dgt n k / 4294967296, ?_⟩
  have e := Int.emod_add_mul_ediv (dgt m i * dgt n k) 4294967296
  have w : (4294967296 : Int) ^ (i + k) * 4294967296 = 26959946667150639794667015087019630673637144422540572481103610249216 := by rw [hk]; decide
  generalize dgt m i * dgt n k / 4294967296 = u at *
  generalize dgt m i * dgt n k % 4294967296 = v at *
  generalize (4294967296 : Int) ^ (i + k) = P at *
  rw [← w] at hq ⊢
  grind
theorem out_next {m n o r : Int} {i k : Nat} (hk : i + k = 7) (ho : ∃ q, o = (m % 4294967296 ^ i) * n + 26959946667150639794667015087019630673637144422540572481103610249216 * q)
    (h : ∃ q, r = dgt m i * (n % 4294967296 ^ k) * 4294967296 ^ i + 26959946667150639794667015087019630673637144422540572481103610249216 * q) :
    ∃ q, o + r = (m % 4294967296 ^ (i + 1)) * n + 26959946667150639794667015087019630673637144422540572481103610249216 * q := by
  obtain ⟨q, rfl⟩ := ho
  obtain ⟨q', rfl⟩ := h
  refine ⟨q + q' - dgt m i * (n / 4294967296 ^ k), ?_⟩
  have e := Int.emod_add_mul_ediv n (4294967296 ^ k)
  have w : (4294967296 : Int) ^ i * 4294967296 ^ k = 26959946667150639794667015087019630673637144422540572481103610249216 := by rw [← Int.pow_add, hk]; decide
  rw [rest_succ, ← w]
  generalize (4294967296 : Int) ^ i = P at *
  generalize (4294967296 : Int) ^ k = K at *
  generalize n / K = u at *
  generalize n % K = v at *
  subst e
  grind
theorem out_last {m n o : Int} (ho : ∃ q, o = (m % 4294967296 ^ 7) * n + 26959946667150639794667015087019630673637144422540572481103610249216 * q) : o % 26959946667150639794667015087019630673637144422540572481103610249216 = (m * n) % 26959946667150639794667015087019630673637144422540572481103610249216 := by
  obtain ⟨q, rfl⟩ := ho
  rw [w7]
  have e := Int.emod_add_mul_ediv m 26959946667150639794667015087019630673637144422540572481103610249216
  generalize (26959946667150639794667015087019630673637144422540572481103610249216 : Int) = W at *
  generalize m / W = u at *
  generalize m % W = v at *
  have : v * n + W * q = m * n + W * (q - u * n) := by subst e; grind
  rw [this, Int.add_mul_emod_self_left]
theorem dgt_one {v : Int} (h0 : 0 ≤ v) (h1 : v < 4294967296) (j i : Nat) : dgt (v * 4294967296 ^ j) i = if i = j then v else 0 := by
  split
  · rename_i e; subst e
    have := dgt_shift v i 0
    rw [Nat.add_zero] at this; rw [this, dgt_small h0 h1]
  · rename_i e
    by_cases h : i < j
    · exact dgt_below v h
    · obtain ⟨k, rfl⟩ : ∃ k, i = j + (k + 1) := ⟨i - j - 1, by omega⟩
      rw [dgt_shift, dgt_smallS h0 h1]
theorem dgt_two {p : Int} (h0 : 0 ≤ p) (h1 : p ≤ 18446744073709551615) (j i : Nat) : dgt (p * 4294967296 ^ j) i = if i = j then p % 4294967296 else if i = j + 1 then p / 4294967296 else 0 := by
  split
  · rename_i e; subst e
    have := dgt_shift p i 0
    rw [Nat.add_zero] at this; rw [this, low_dig]
  · rename_i e
    by_cases h : i < j
    · rw [if_neg (by omega)]; exact dgt_below p h
    · obtain ⟨k, rfl⟩ : ∃ k, i = j + (k + 1) := ⟨i - j - 1, by omega⟩
      rw [dgt_shift]
      have e2 : p = p % 4294967296 + 4294967296 * (p / 4294967296) := by omega
      rw [e2, dgt_consS (by omega) (by omega)]
      cases k with
      | zero => rw [if_pos rfl, dgt_small (by omega) (by omega)]; omega
      | succ k => rw [dgt_smallS (by omega) (by omega), if_neg (by omega)]
/-! Division bit by bit -/
theorem share_j {t : Nat} (h : 1 ≤ t) (h2 : t ≤ 224) : IntKind.wrap .i64 (Int.tdiv (((t : Nat) : Int) - 1) 32) = (((t - 1) / 32 : Nat) : Int) := by
  rw [Int.tdiv_eq_ediv_of_nonneg (by omega), wrap_i64 (by omega) (by omega)]; omega
theorem share_k {t : Nat} (h : 1 ≤ t) : Int.tmod (((t : Nat) : Int) - 1) 32 = (((t - 1) % 32 : Nat) : Int) := by
  rw [Int.tmod_eq_emod_of_nonneg (by omega)]; omega
theorem share_nn (a : Int) (j : Nat) (e : Nat) : 0 ≤ Int.fdiv (dgt a j) (2 ^ e) := by
  rw [Int.fdiv_eq_ediv_of_nonneg _ (Int.pow_nonneg (by decide))]
  exact Int.ediv_nonneg (dgt_bd a j).1 (Int.pow_nonneg (by decide))
theorem share_bit (a : Int) (t : Nat) : (Int.fdiv (dgt a ((t - 1) / 32)) (2 ^ ((((t - 1) % 32 : Nat) : Int).toNat)) % 2 == 1) = decide (a / 2 ^ (t - 1) % 2 = 1) := by
  rw [Bool.eq_iff_iff, beq_iff_eq, decide_eq_true_eq, Int.toNat_natCast, Int.fdiv_eq_ediv_of_nonneg _ (Int.pow_nonneg (by decide))]
  generalize t - 1 = s
  unfold dgt
  have e : (4294967296 : Int) ^ (s / 32) = 2 ^ (32 * (s / 32)) := by rw [Int.pow_mul]; rfl
  have e2 : a / 2 ^ s = a / 4294967296 ^ (s / 32) / 2 ^ (s % 32) := by
    rw [e, Int.ediv_ediv_of_nonneg (Int.pow_nonneg (by decide)), ← Int.pow_add]
    congr 2; omega
  rw [e2]
  generalize a / 4294967296 ^ (s / 32) = u
  have hr : s % 32 < 32 := Nat.mod_lt _ (by decide)
  generalize s % 32 = r at *
  have key : u % 4294967296 / 2 ^ r % 2 = u / 2 ^ r % 2 := by
    obtain ⟨q, hq⟩ : ∃ q : Int, (4294967296 : Int) = 2 ^ r * (2 * q) := ⟨2 ^ (31 - r), by rw [← Int.pow_succ', ← Int.pow_add, show r + (31 - r + 1) = 32 by omega]; rfl⟩
    have hp : (0 : Int) < 2 ^ r := Int.pow_pos (by decide)
    have e3 := Int.emod_add_mul_ediv u 4294967296
    generalize u / 4294967296 = v at *
    generalize u % 4294967296 = w at *
    have e4 : u = w + 2 ^ r * (2 * q * v) := by rw [← e3, hq]; generalize (2 : Int) ^ r = z; grind
    rw [e4, Int.add_mul_ediv_left _ _ (by omega), Int.mul_assoc]
    omega
  rw [key]
theorem half_step (a : Int) {t : Nat} (h : 1 ≤ t) : a / 2 ^ (t - 1) = 2 * (a / 2 ^ t) + a / 2 ^ (t - 1) % 2 := by
  obtain ⟨s, rfl⟩ : ∃ s, t = s + 1 := ⟨t - 1, by omega⟩
  rw [Nat.add_sub_cancel, Int.pow_succ, ← Int.ediv_ediv_of_nonneg (Int.pow_nonneg (by decide))]
  omega
theorem top_zero {a : Int} (h0 : 0 ≤ a) (h1 : a < 26959946667150639794667015087019630673637144422540572481103610249216) : a / 2 ^ 224 = 0 := Int.ediv_eq_zero_of_lt h0 (by simpa using h1)
theorem share_end {a b q r : Int} (h0 : 0 ≤ r) (h1 : r < b) (h : q * b + r = a / 2 ^ 0) : q = a / b ∧ r = a % b := by
  rw [Int.pow_zero, Int.ediv_one] at h
  have hb : 0 < b := by omega
  subst h
  rw [show q * b + r = r + b * q by grind, Int.add_mul_ediv_left _ _ (by omega), Int.ediv_eq_zero_of_lt h0 h1, Int.add_mul_emod_self_left, Int.emod_eq_of_lt h0 h1]
  omega
/-! The greatest common divisor by halving -/
theorem gcd_halves {a b : Int} (ha : a % 2 = 0) (hb : b % 2 = 0) : Int.gcd a b = 2 * Int.gcd (a / 2) (b / 2) := by
  have e1 : a = 2 * (a / 2) := by omega
  have e2 : b = 2 * (b / 2) := by omega
  have := Int.gcd_mul_left (m := 2) (n := a / 2) (k := b / 2)
  rw [← e1, ← e2] at this
  exact this
theorem gcd_half_left {a b : Int} (ha : a % 2 = 0) (hb : b % 2 = 1) : Int.gcd (a / 2) b = Int.gcd a b := by
  have e1 : a = 2 * (a / 2) := by omega
  have c : Nat.Coprime 2 b.natAbs := by
    unfold Nat.Coprime
    rw [Nat.gcd_rec]
    have : b.natAbs % 2 = 1 := by omega
    rw [this]
    rfl
  have : Int.gcd a b = Nat.gcd (2 * (a / 2).natAbs) b.natAbs := by
    unfold Int.gcd
    congr 1
    omega
  rw [this, Nat.Coprime.gcd_mul_left_cancel _ c]
  rfl
theorem gcd_half_right {a b : Int} (ha : a % 2 = 1) (hb : b % 2 = 0) : Int.gcd a (b / 2) = Int.gcd a b := by
  rw [Int.gcd_comm, gcd_half_left hb ha, Int.gcd_comm]
theorem gcd_sub (a b : Int) : Int.gcd (a - b) b = Int.gcd a b := by
  have := Int.gcd_sub_self_right
  grind [Int.gcd_comm]
theorem two_lt {b n : Int} {t : Nat} (hb : 0 < b) (h : b * 2 ^ t = n) (hn : n < 13479973333575319897333507543509815336818572211270286240551805124608) : t < 223 := by
  rcases Nat.lt_or_ge t 223 with h1 | h1
  · exact h1
  · exfalso
    have p : (2 : Nat) ^ 223 ≤ 2 ^ t := Nat.pow_le_pow_right (by decide) h1
    have q : ((2 ^ t : Nat) : Int) = (2 : Int) ^ t := by simp
    have q2 : (13479973333575319897333507543509815336818572211270286240551805124608 : Int) ≤ 2 ^ t := by rw [← q]; omega
    have : 1 * (2 : Int) ^ t ≤ b * 2 ^ t := Int.mul_le_mul_of_nonneg_right (by omega) (by omega)
    omega
/-! Short; signs -/
def s64 (n : Int) : Int := (n + 9223372036854775808) % 18446744073709551616 - 9223372036854775808
def in64 (n : Int) : Bool := decide (-9223372036854775808 ≤ n) && decide (n ≤ 9223372036854775807)
theorem s64_bd (n : Int) : -9223372036854775808 ≤ s64 n ∧ s64 n ≤ 9223372036854775807 := by unfold s64; omega
theorem s64_of (n : Int) : IntKind.wrap .i64 (n % 18446744073709551616) = s64 n := by rw [IntKind.wrap_i64]; unfold s64; omega
theorem s64_id {n : Int} (h0 : -9223372036854775808 ≤ n) (h1 : n ≤ 9223372036854775807) : s64 n = n := by unfold s64; omega
theorem short_eq {n : Int} (h0 : -13479973333575319897333507543509815336818572211270286240551805124608 ≤ n) (h1 : n < 13479973333575319897333507543509815336818572211270286240551805124608) :
    ((dgt (s64 n) 0 == dgt n 0) && ((dgt (s64 n) 1 == dgt n 1) && ((dgt (s64 n) 2 == dgt n 2) && ((dgt (s64 n) 3 == dgt n 3) && ((dgt (s64 n) 4 == dgt n 4) && ((dgt (s64 n) 5 == dgt n 5) && ((dgt (s64 n) 6 == dgt n 6) && true))))))) = in64 n := by
  have b := s64_bd n
  rw [eq_dig (by omega) (by omega), Bool.eq_iff_iff]
  unfold in64
  rw [decide_eq_true_eq, Bool.and_eq_true, decide_eq_true_eq, decide_eq_true_eq]
  unfold s64 at *
  omega
theorem sgn_ge (x : Int) : decide (sgn x ≥ 0) = decide (0 ≤ x) := by rw [decide_eq_decide]; unfold sgn; (repeat' split) <;> omega
theorem sgn_le (x : Int) : decide (sgn x ≤ 0) = decide (x ≤ 0) := by rw [decide_eq_decide]; unfold sgn; (repeat' split) <;> omega
theorem sgn_lt (x : Int) : decide (sgn x < 0) = decide (x < 0) := by rw [decide_eq_decide]; unfold sgn; (repeat' split) <;> omega
theorem sgn_gt (x : Int) : decide (sgn x > 0) = decide (0 < x) := by rw [decide_eq_decide]; unfold sgn; (repeat' split) <;> omega
theorem nz_dig {n : Int} (h0 : -13479973333575319897333507543509815336818572211270286240551805124608 ≤ n) (h1 : n < 13479973333575319897333507543509815336818572211270286240551805124608) :
    (!((dgt n 0 == 0) && ((dgt n 1 == 0) && ((dgt n 2 == 0) && ((dgt n 3 == 0) && ((dgt n 4 == 0) && ((dgt n 5 == 0) && ((dgt n 6 == 0) && true)))))))) = decide (n ≠ 0) := by
  rw [zero_dig h0 h1, decide_not]
theorem par_dig0 (n : Int) : (dgt n 0 % 2 == 0) = decide (n % 2 = 0) := by rw [par_dig, Bool.eq_iff_iff, beq_iff_eq, decide_eq_true_eq]
theorem gcd_sub' (a b : Int) : Int.gcd (b - a) a = Int.gcd a b := by rw [gcd_sub, Int.gcd_comm]
theorem common_end {d : Int} {t : Nat} (h : 0 < d) : d * 2 ^ t = ((Int.gcd 0 d * 2 ^ t : Nat) : Int) := by
  rw [Int.gcd_zero_left]
  have e : (d.natAbs : Int) = d := by omega
  rw [Int.natCast_mul, e]
  simp
theorem pow_double (g : Int) (j : Nat) : 2 * (g * 2 ^ j) = g * 2 ^ (j + 1) := by rw [Int.pow_succ]; grind
end Go.Proofs.Ytigllakcfdoagaa.Am.Sp
namespace Go.Proofs.Ytigllakcfdoagaa.Am
open Go
/-- What comes behind a loop, told once for all its exits. -/
theorem al_joinB {C : Ctx} {P : Program} {S S1 : St} {x y : Code} {Q : Exit → St → Prop} {K : St → Prop} {id : Nat} (F : Prop) (h : F → AW C P y S1 Q) (k : (F → AW C P y S1 Q) → AL C P x S (blockQ id (thenQ K Q))) : AL C P x S (blockQ id (thenQ K Q)) := k h
theorem lds_eq {m n : Int} (h : m = n) : lds m = lds n := by rw [h]
theorem setL_zero {v : Int} {off j : Nat} (ho : off = j) (hj : j < 7) (h0 : 0 ≤ v) (h1 : v < 4294967296) : setL [.int .u64 0, .int .u64 0, .int .u64 0, .int .u64 0, .int .u64 0, .int .u64 0, .int .u64 0] off [.int .u64 v] = lds (v * 4294967296 ^ j) := by
  subst ho
  unfold lds
  simp only [Sp.dgt_one h0 h1]
  have c : off = 0 ∨ off = 1 ∨ off = 2 ∨ off = 3 ∨ off = 4 ∨ off = 5 ∨ off = 6 := by omega
  rcases c with rfl | rfl | rfl | rfl | rfl | rfl | rfl <;> rfl
theorem setL_next {p : Int} {off j : Nat} (ho : off = j + 1) (hj : j + 1 < 7) (h0 : 0 ≤ p) (h1 : p ≤ 18446744073709551615) : setL (lds (p % 4294967296 * 4294967296 ^ j)) off [.int .u64 (p / 4294967296)] = lds (p * 4294967296 ^ j) := by
  subst ho
  unfold lds
  simp only [Sp.dgt_one (show 0 ≤ p % 4294967296 by omega) (show p % 4294967296 < 4294967296 by omega), Sp.dgt_two h0 h1]
  have c : j = 0 ∨ j = 1 ∨ j = 2 ∨ j = 3 ∨ j = 4 ∨ j = 5 := by omega
  rcases c with rfl | rfl | rfl | rfl | rfl | rfl <;> rfl
end Go.Proofs.Ytigllakcfdoagaa.Am
