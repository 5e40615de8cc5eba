import Derived.Test.YtadifmimefmcnaaM4
import Derived.Test.YtadifmimefmcnaaM2
import Derived.Test.YtadifmimefmcnaaM3
import Derived.Test.YtadifmimefmcnaaProg
namespace Go.Proofs.Ytadifmimefmcnaa.Am.Sp
def dgt (n : Int) (i : Nat) : Int := n / 4294967296 ^ i % 4294967296
theorem bpos (i : Nat) : 0 < (4294967296 : Int) ^ i := Int.pow_pos (by decide)
theorem bsucc (i : Nat) : (4294967296 : Int) ^ (i + 1) = 4294967296 ^ i * 4294967296 := Int.pow_succ _ _
/-- the rest below the next digit -/
theorem rest_succ (n : Int) (i : Nat) : n % 4294967296 ^ (i + 1) = n % 4294967296 ^ i + 4294967296 ^ i * dgt n i := by
  have hP := bpos i
  rw [bsucc]
  unfold dgt
  generalize (4294967296 : Int) ^ i = P at *
  have h1 := Int.emod_add_mul_ediv n P
  have h2 := Int.emod_add_mul_ediv (n / P) 4294967296
  have r0 := Int.emod_nonneg n (show P ≠ 0 by omega)
  have r1 := Int.emod_lt_of_pos n hP
  have s0 := Int.emod_nonneg (n / P) (show (4294967296 : Int) ≠ 0 by decide)
  have s1 := Int.emod_lt_of_pos (n / P) (show (0 : Int) < 4294967296 by decide)
  generalize hu : n / P = u at *
  generalize hd : u % 4294967296 = d at *
  generalize hv : u / 4294967296 = v at *
  generalize hr : n % P = r at *
  have e : n = (r + P * d) + P * 4294967296 * v := by rw [← h1, ← h2]; grind
  have lo : 0 ≤ P * d := Int.mul_nonneg (by omega) s0
  have hi : P * d ≤ P * 4294967295 := Int.mul_le_mul_of_nonneg_left (by omega) (by omega)
  rw [e, Int.add_mul_emod_self_left, Int.emod_eq_of_lt (by omega) (by omega)]
theorem rest_zero (n : Int) : n % 4294967296 ^ 0 = 0 := by simp [Int.emod_one]
/-- the carry into digit i of a sum -/
def cy (m n : Int) (i : Nat) : Int := (m % 4294967296 ^ i + n % 4294967296 ^ i) / 4294967296 ^ i
/-- equal digits -/
theorem dgt_congr {m n : Int} {i : Nat} (h : m % 26959946667150639794667015087019630673637144422540572481103610249216 = n % 26959946667150639794667015087019630673637144422540572481103610249216) (hi : i < 7) : dgt m i = dgt n i := by
  have key : ∀ n : Int, dgt (n % 26959946667150639794667015087019630673637144422540572481103610249216) i = dgt n i := by
    intro n
    have e : n % 26959946667150639794667015087019630673637144422540572481103610249216 = n - 26959946667150639794667015087019630673637144422540572481103610249216 * (n / 26959946667150639794667015087019630673637144422540572481103610249216) := by omega
    generalize n / 26959946667150639794667015087019630673637144422540572481103610249216 = q at e
    rw [e]
    have c : i = 0 ∨ i = 1 ∨ i = 2 ∨ i = 3 ∨ i = 4 ∨ i = 5 ∨ i = 6 := by omega
    unfold dgt
    rcases c with rfl | rfl | rfl | rfl | rfl | rfl | rfl <;> simp only [Int.reducePow] <;> omega
  rw [← key m, ← key n, h]
theorem rest_eq {m n : Int} : ∀ {k : Nat}, (∀ i, i < k → dgt m i = dgt n i) → m % 4294967296 ^ k = n % 4294967296 ^ k
  | 0, _ => by rw [rest_zero, rest_zero]
  | k + 1, h => by rw [rest_succ, rest_succ, rest_eq (fun i hi => h i (by omega)), h k (by omega)]
theorem w7 : (4294967296 : Int) ^ 7 = 26959946667150639794667015087019630673637144422540572481103610249216 := by decide
theorem dgts_eq {m n : Int} : ((dgt m 0 == dgt n 0) && ((dgt m 1 == dgt n 1) && ((dgt m 2 == dgt n 2) && ((dgt m 3 == dgt n 3) && ((dgt m 4 == dgt n 4) && ((dgt m 5 == dgt n 5) && ((dgt m 6 == dgt n 6) && true))))))) = decide (m % 26959946667150639794667015087019630673637144422540572481103610249216 = n % 26959946667150639794667015087019630673637144422540572481103610249216) := by
  rw [Bool.eq_iff_iff]
  simp only [Bool.and_eq_true, beq_iff_eq, decide_eq_true_eq, and_true]
  constructor
  · rintro ⟨h0, h1, h2, h3, h4, h5, h6⟩
    rw [← w7]
    refine rest_eq fun i hi => ?_
    have c : i = 0 ∨ i = 1 ∨ i = 2 ∨ i = 3 ∨ i = 4 ∨ i = 5 ∨ i = 6 := by omega
    rcases c with rfl | rfl | rfl | rfl | rfl | rfl | rfl <;> assumption
  · intro h
    exact ⟨dgt_congr h (by decide), dgt_congr h (by decide), dgt_congr h (by decide), dgt_congr h (by decide), dgt_congr h (by decide), dgt_congr h (by decide), dgt_congr h (by decide)⟩
end Go.Proofs.Ytadifmimefmcnaa.Am.Sp
namespace Go.Proofs.Ytadifmimefmcnaa.Am.Sp
def gd (n d : Int) : Bool := decide (0 < d) && (decide (-9223372036854775808 < n) && decide (Nat.gcd n.natAbs d.natAbs = 1))
def fn (n d : Int) : Int := if gd n d = true then n else 0
def fd (n d : Int) : Int := if gd n d = true then d else 1
def rv (n d : Int) : Rat := Rat.divInt (fn n d) (fd n d)
def fitq (q : Rat) : Bool := decide (-9223372036854775807 ≤ q.num) && (decide (q.num ≤ 9223372036854775807) && decide ((q.den : Int) ≤ 9223372036854775807))
end Go.Proofs.Ytadifmimefmcnaa.Am.Sp
namespace Go.Proofs.Ytadifmimefmcnaa.Am.Sp
theorem bvn {a : Int} (h0 : 0 ≤ a) (h1 : a < 18446744073709551616) : (BitVec.ofInt 64 a).toNat = a.toNat := by
  rw [BitVec.toNat_ofInt]; omega
theorem bv_lt (v : BitVec 64) : 0 ≤ (v.toNat : Int) ∧ (v.toNat : Int) ≤ 18446744073709551615 := ⟨by omega, by have := v.isLt; omega⟩
theorem wrapbv (v : BitVec 64) : IntKind.wrap .u64 (v.toNat : Int) = (v.toNat : Int) := wrap_u64 (bv_lt v).1 (bv_lt v).2
end Go.Proofs.Ytadifmimefmcnaa.Am.Sp
namespace Go.Proofs.Ytadifmimefmcnaa.Am.Sp
theorem ufd {a b : Int} (h : 0 ≤ b) : Int.fdiv a b = a / b := Int.fdiv_eq_ediv_of_nonneg _ h
theorem ulow {a : Int} : IntKind.wrap .u64 a = a % 18446744073709551616 := IntKind.wrap_u64 a
end Go.Proofs.Ytadifmimefmcnaa.Am.Sp
namespace Go.Proofs.Ytadifmimefmcnaa.Am
open Go
end Go.Proofs.Ytadifmimefmcnaa.Am
namespace Go.Proofs.Ytadifmimefmcnaa.Am.Sp
def s64 (n : Int) : Int := (n + 9223372036854775808) % 18446744073709551616 - 9223372036854775808
def in64 (n : Int) : Bool := decide (-9223372036854775808 ≤ n) && decide (n ≤ 9223372036854775807)
theorem s64_bd (n : Int) : -9223372036854775808 ≤ s64 n ∧ s64 n ≤ 9223372036854775807 := by unfold s64; omega
theorem s64_id {n : Int} (h0 : -9223372036854775808 ≤ n) (h1 : n ≤ 9223372036854775807) : s64 n = n := by unfold s64; omega
end Go.Proofs.Ytadifmimefmcnaa.Am.Sp
namespace Go.Proofs.Ytadifmimefmcnaa.Am
open Go
end Go.Proofs.Ytadifmimefmcnaa.Am
namespace Go.Proofs.Ytadifmimefmcnaa.Am.Sp
theorem gcd_pos {n d : Int} (hd : 0 < d) : 0 < (Int.gcd n d : Int) := by
  have : 0 < Int.gcd n d := Int.gcd_pos_of_ne_zero_right n (by omega)
  omega
theorem abs_div (n : Int) {g : Int} (hg : 0 < g) (h : g ∣ n) : (n.natAbs : Int) / g = if n < 0 then -(n / g) else n / g := by
  obtain ⟨k, rfl⟩ := h
  rw [Int.mul_ediv_cancel_left _ (by omega)]
  split
  · rename_i hn
    have e : ((g * k).natAbs : Int) = g * (-k) := by rw [Int.mul_neg]; omega
    rw [e, Int.mul_ediv_cancel_left _ (by omega)]
  · rename_i hn
    have e : ((g * k).natAbs : Int) = g * k := by omega
    rw [e, Int.mul_ediv_cancel_left _ (by omega)]
theorem dI_num {n d : Int} (hd : 0 < d) : (Rat.divInt n d).num = n / (Int.gcd n d : Int) := by
  rw [Rat.num_divInt, Int.sign_eq_one_of_pos hd, Int.one_mul, Int.gcd_comm]
theorem dI_den {n d : Int} (hd : 0 < d) : ((Rat.divInt n d).den : Int) = d / (Int.gcd n d : Int) := by
  rw [Rat.den_divInt, if_neg (by omega), Int.gcd_comm]
  have : (d.natAbs : Int) = d := by omega
  rw [Int.natCast_ediv, this]
theorem quo_bd {a b : Int} (h : 0 ≤ a) (hb : 0 < b) : 0 ≤ a / b ∧ a / b ≤ a := ⟨Int.ediv_nonneg h (by omega), Int.ediv_le_self b h⟩
end Go.Proofs.Ytadifmimefmcnaa.Am.Sp
namespace Go.Proofs.Ytadifmimefmcnaa.Am.Sp
def wh (n : Int) : Int := s64 (n / 18446744073709551616)
def wl (n : Int) : Int := n % 18446744073709551616
theorem s64_any (n : Int) : IntKind.wrap .i64 n = s64 n := by rw [IntKind.wrap_i64]; unfold s64; omega
theorem and_low {x : Int} (h0 : 0 ≤ x) (h1 : x ≤ 18446744073709551615) : IntKind.wrap .u64 ((BitVec.ofInt 64 x &&& BitVec.ofInt 64 4294967295).toNat : Int) = x % 4294967296 := by
  rw [wrapbv, BitVec.toNat_and, bvn h0 (by omega), bvn (by decide) (by decide)]
  obtain ⟨a, rfl⟩ : ∃ a : Nat, x = a := ⟨x.toNat, by omega⟩
  have e : a &&& (2 ^ 32 - 1) = a % 2 ^ 32 := Nat.and_two_pow_sub_one_eq_mod a 32
  have e2 : (4294967295 : Int).toNat = 2 ^ 32 - 1 := by decide
  rw [e2, Int.toNat_natCast, e]; omega
theorem mul_nn {a b A B : Int} (h0 : 0 ≤ a) (h1 : a ≤ A) (h2 : 0 ≤ b) (h3 : b ≤ B) : 0 ≤ a * b ∧ a * b ≤ A * B :=
  ⟨Int.mul_nonneg h0 h2, Int.mul_le_mul h1 h3 h2 (by omega)⟩
theorem mul64_parts {m n : Int} (h0 : 0 ≤ m) (h1 : m ≤ 18446744073709551615) (h2 : 0 ≤ n) (h3 : n ≤ 18446744073709551615) :
    (0 ≤ (m % 4294967296) * (n % 4294967296) ∧ (m % 4294967296) * (n % 4294967296) ≤ 18446744065119617025) ∧ (0 ≤ (m / 4294967296) * (n % 4294967296) ∧ (m / 4294967296) * (n % 4294967296) ≤ 18446744065119617025) ∧
    (0 ≤ (m % 4294967296) * (n / 4294967296) ∧ (m % 4294967296) * (n / 4294967296) ≤ 18446744065119617025) ∧ (0 ≤ (m / 4294967296) * (n / 4294967296) ∧ (m / 4294967296) * (n / 4294967296) ≤ 18446744065119617025) ∧
    m * n = (m / 4294967296) * (n / 4294967296) * 18446744073709551616 + ((m / 4294967296) * (n % 4294967296) + (m % 4294967296) * (n / 4294967296)) * 4294967296 + (m % 4294967296) * (n % 4294967296) := by
  have a0 : 0 ≤ m % 4294967296 ∧ m % 4294967296 ≤ 4294967295 := by omega
  have a1 : 0 ≤ m / 4294967296 ∧ m / 4294967296 ≤ 4294967295 := by omega
  have b0 : 0 ≤ n % 4294967296 ∧ n % 4294967296 ≤ 4294967295 := by omega
  have b1 : 0 ≤ n / 4294967296 ∧ n / 4294967296 ≤ 4294967295 := by omega
  refine ⟨mul_nn a0.1 a0.2 b0.1 b0.2, mul_nn a1.1 a1.2 b0.1 b0.2, mul_nn a0.1 a0.2 b1.1 b1.2, mul_nn a1.1 a1.2 b1.1 b1.2, ?_⟩
  have em : m = m / 4294967296 * 4294967296 + m % 4294967296 := by omega
  have en : n = n / 4294967296 * 4294967296 + n % 4294967296 := by omega
  generalize m / 4294967296 = p at *
  generalize m % 4294967296 = q at *
  generalize n / 4294967296 = r at *
  generalize n % 4294967296 = s at *
  subst em; subst en; grind
theorem ab_parts {a b : Int} (h0 : -9223372036854775808 ≤ a) (h1 : a ≤ 9223372036854775807) (h2 : -9223372036854775808 ≤ b) (h3 : b ≤ 9223372036854775807) :
    a * b = (a % 18446744073709551616) * (b % 18446744073709551616) - 18446744073709551616 * ((if a < 0 then b % 18446744073709551616 else 0) + (if b < 0 then a % 18446744073709551616 else 0)) + (if a < 0 ∧ b < 0 then 340282366920938463463374607431768211456 else 0) ∧
      0 ≤ (a % 18446744073709551616) * (b % 18446744073709551616) := by
  refine ⟨?_, Int.mul_nonneg (by omega) (by omega)⟩
  by_cases ha : a < 0
  · have ea : a % 18446744073709551616 = a + 18446744073709551616 := by omega
    by_cases hb : b < 0
    · have eb : b % 18446744073709551616 = b + 18446744073709551616 := by omega
      rw [if_pos ha, if_pos hb, if_pos ⟨ha, hb⟩, ea, eb]; grind
    · have eb : b % 18446744073709551616 = b := by omega
      rw [if_pos ha, if_neg hb, if_neg (by omega), ea, eb]; grind
  · have ea : a % 18446744073709551616 = a := by omega
    by_cases hb : b < 0
    · have eb : b % 18446744073709551616 = b + 18446744073709551616 := by omega
      rw [if_neg ha, if_pos hb, if_neg (by omega), ea, eb]; grind
    · have eb : b % 18446744073709551616 = b := by omega
      rw [if_neg ha, if_neg hb, if_neg (by omega), ea, eb]; omega
theorem in64_iff (n : Int) : in64 n = true ↔ -9223372036854775808 ≤ n ∧ n ≤ 9223372036854775807 := by unfold in64; simp
theorem short_neq {n : Int} (h0 : -170141183460469231731687303715884105728 ≤ n) (h1 : n < 170141183460469231731687303715884105728) :
    (!((wh n == wh (s64 n)) && ((wl n == wl (s64 n)) && true))) = !(in64 n) := by
  congr 1
  rw [Bool.eq_iff_iff, in64_iff]
  simp only [Bool.and_eq_true, beq_iff_eq, and_true]
  have b := s64_bd n
  unfold wh wl
  rw [s64_id (n := n / 18446744073709551616) (by omega) (by omega), s64_id (n := s64 n / 18446744073709551616) (by omega) (by omega)]
  unfold s64 at *
  omega
end Go.Proofs.Ytadifmimefmcnaa.Am.Sp
namespace Go.Proofs.Ytadifmimefmcnaa.Am.Sp
end Go.Proofs.Ytadifmimefmcnaa.Am.Sp
set_option linter.unusedVariables false
namespace Go.Proofs.Ytadifmimefmcnaa.Am.Sp
theorem wl_bd (n : Int) : 0 ≤ wl n ∧ wl n ≤ 18446744073709551615 := by unfold wl; omega
theorem wh_bd (n : Int) : -9223372036854775808 ≤ wh n ∧ wh n ≤ 9223372036854775807 := s64_bd _
theorem wh_id {n : Int} (h0 : -170141183460469231731687303715884105728 ≤ n) (h1 : n < 170141183460469231731687303715884105728) : wh n = n / 18446744073709551616 := s64_id (by omega) (by omega)
theorem w_eq {a b : Int} (a0 : -170141183460469231731687303715884105728 ≤ a) (a1 : a < 170141183460469231731687303715884105728) (b0 : -170141183460469231731687303715884105728 ≤ b) (b1 : b < 170141183460469231731687303715884105728) :
    ((wh a == wh b) && ((wl a == wl b) && true)) = decide (a = b) := by
  rw [wh_id a0 a1, wh_id b0 b1, Bool.eq_iff_iff]
  simp only [Bool.and_eq_true, beq_iff_eq, and_true, decide_eq_true_eq]
  unfold wl
  omega
/-- what is known of a guess -/
structure Guess (u y a b c q r : Int) : Prop where
  ya : y = a * 4294967296 + b
  a0 : 2147483648 ≤ a
  a1 : a ≤ 4294967295
  b0 : 0 ≤ b
  b1 : b ≤ 4294967295
  c0 : 0 ≤ c
  c1 : c ≤ 4294967295
  u0 : 0 ≤ u
  u1 : u < y
  qr : q * a + r = u
  q0 : 0 ≤ q
  q1 : q ≤ 4294967297
  r0 : 0 ≤ r
  top : u * 4294967296 + c < q * y + y
theorem Guess.parts {u y a b c q r : Int} (g : Guess u y a b c q r) : q * y = q * a * 4294967296 + q * b := by rw [g.ya]; grind
theorem Guess.first {u y a b c : Int} (ya : y = a * 4294967296 + b) (a0 : 2147483648 ≤ a) (a1 : a ≤ 4294967295) (b0 : 0 ≤ b) (b1 : b ≤ 4294967295) (c0 : 0 ≤ c) (c1 : c ≤ 4294967295) (u0 : 0 ≤ u) (u1 : u < y) :
    Guess u y a b c (u / a) (u - u / a * a) ∧ u - u / a * a ≤ 4294967295 := by
  have e := Int.emod_add_mul_ediv u a
  have m0 := Int.emod_nonneg u (show a ≠ 0 by omega)
  have m1 := Int.emod_lt_of_pos u (show 0 < a by omega)
  have q0 : 0 ≤ u / a := Int.ediv_nonneg u0 (by omega)
  rw [Int.mul_comm] at e
  generalize hq : u / a = q at *
  have q1 : q ≤ 4294967297 := by
    rcases Int.lt_or_le 4294967297 q with h | h
    · exfalso
      have : 4294967298 * a ≤ q * a := Int.mul_le_mul_of_nonneg_right (by omega) (by omega)
      omega
    · exact h
  have hb : 0 ≤ q * b := Int.mul_nonneg q0 b0
  refine ⟨⟨ya, a0, a1, b0, b1, c0, c1, u0, u1, by omega, q0, q1, by omega, ?_⟩, by omega⟩
  have : q * y = q * a * 4294967296 + q * b := by rw [ya]; grind
  rw [this]
  omega
theorem Guess.next {u y a b c q r : Int} (g : Guess u y a b c q r) (h : q ≥ 4294967296 ∨ q * b > 4294967296 * r + c) : Guess u y a b c (q - 1) (r + a) := by
  have p := g.parts
  obtain ⟨ya, a0, a1, b0, b1, c0, c1, u0, u1, qr, q0, q1, r0, top⟩ := g
  have hlt : u * 4294967296 + c < q * y := by
    rcases h with h | h
    · have : 4294967296 * y ≤ q * y := Int.mul_le_mul_of_nonneg_right h (by omega)
      omega
    · rw [p]; omega
  have hq : 1 ≤ q := by
    rcases Int.lt_or_le 0 q with h' | h'
    · omega
    · have e : q = 0 := by omega
      rw [e, Int.zero_mul] at hlt; omega
  have e1 : (q - 1) * a = q * a - a := by grind
  have e2 : (q - 1) * y = q * y - y := by grind
  exact ⟨ya, a0, a1, b0, b1, c0, c1, u0, u1, by rw [e1]; omega, by omega, by omega, by omega, by rw [e2]; omega⟩
theorem Guess.done {u y a b c q r : Int} (g : Guess u y a b c q r) (h : q < 4294967296 ∧ q * b ≤ 4294967296 * r + c ∨ q ≤ 4294967296 ∧ r ≥ 4294967296) :
    q * y ≤ u * 4294967296 + c ∧ u * 4294967296 + c < q * y + y := by
  have p := g.parts
  obtain ⟨ya, a0, a1, b0, b1, c0, c1, u0, u1, qr, q0, q1, r0, top⟩ := g
  refine ⟨?_, top⟩
  rw [p]
  rcases h with ⟨h1, h2⟩ | ⟨h1, h2⟩
  · omega
  · have : q * b ≤ 4294967296 * 4294967295 := Int.mul_le_mul h1 b1 b0 (by omega)
    omega
theorem Guess.small {u y a b c q r : Int} (g : Guess u y a b c q r) (h : q * y ≤ u * 4294967296 + c) : q ≤ 4294967295 := by
  rcases Int.lt_or_le 4294967295 q with h' | h'
  · exfalso
    have : 4294967296 * y ≤ q * y := Int.mul_le_mul_of_nonneg_right h' (by have := g.u0; have := g.u1; omega)
    have := g.u1; have := g.c1
    omega
  · exact h'
end Go.Proofs.Ytadifmimefmcnaa.Am.Sp
namespace Go.Proofs.Ytadifmimefmcnaa.Am.Sp
end Go.Proofs.Ytadifmimefmcnaa.Am.Sp
namespace Go.Proofs.Ytadifmimefmcnaa.Am
open Go
end Go.Proofs.Ytadifmimefmcnaa.Am
namespace Go.Proofs.Ytadifmimefmcnaa.Am.Sp
end Go.Proofs.Ytadifmimefmcnaa.Am.Sp
namespace Go.Proofs.Ytadifmimefmcnaa.Am.Sp
end Go.Proofs.Ytadifmimefmcnaa.Am.Sp
namespace Go.Proofs.Ytadifmimefmcnaa.Am.Sp
end Go.Proofs.Ytadifmimefmcnaa.Am.Sp
set_option linter.unusedVariables false
namespace Go.Proofs.Ytadifmimefmcnaa.Am.Sp
def rmin (a b : Rat) : Rat := if b < a then b else a
def rmax (a b : Rat) : Rat := if a < b then b else a
end Go.Proofs.Ytadifmimefmcnaa.Am.Sp
set_option linter.unusedVariables false
namespace Go.Proofs.Ytadifmimefmcnaa.Am.Sp
/-- size of a number -/
def Bd (N D : Nat) (q : Rat) : Prop := q.num.natAbs ≤ N ∧ q.den ≤ D
theorem Bd.neg {N D : Nat} {q : Rat} (h : Bd N D q) : Bd N D (-q) := by unfold Bd at *; rw [Rat.neg_num, Rat.neg_den, Int.natAbs_neg]; exact h
theorem bd_divInt {n d : Int} (hd : 0 < d) : Bd n.natAbs d.natAbs (Rat.divInt n d) := by
  have gp := gcd_pos (n := n) hd
  refine ⟨?_, ?_⟩
  · rw [dI_num hd]
    have h := abs_div n gp (Int.gcd_dvd_left n d)
    have h2 := quo_bd (a := (n.natAbs : Int)) (b := (Int.gcd n d : Int)) (by omega) gp
    generalize n / (Int.gcd n d : Int) = q at *
    split at h <;> omega
  · have h := dI_den (n := n) hd
    have h2 := quo_bd (a := d) (b := (Int.gcd n d : Int)) (by omega) gp
    omega
theorem Bd.mono {N D N' D' : Nat} {q : Rat} (h : Bd N D q) (h1 : N ≤ N') (h2 : D ≤ D') : Bd N' D' q := ⟨Nat.le_trans h.1 h1, Nat.le_trans h.2 h2⟩
theorem rat_self (q : Rat) : Rat.divInt q.num (q.den : Int) = q := by rw [Rat.divInt_ofNat, Rat.mkRat_self]
theorem Bd.mul {N D N' D' : Nat} {a b : Rat} (h : Bd N D a) (k : Bd N' D' b) : Bd (N * N') (D * D') (a * b) := by
  have e : a * b = Rat.divInt (a.num * b.num) ((a.den : Int) * b.den) := by
    conv => lhs; rw [← rat_self a, ← rat_self b, Rat.divInt_mul_divInt]
  rw [e]
  have pd : (0 : Int) < (a.den : Int) * b.den := Int.mul_pos (by have := a.den_pos; omega) (by have := b.den_pos; omega)
  refine (bd_divInt pd).mono ?_ ?_
  · rw [Int.natAbs_mul]; exact Nat.mul_le_mul h.1 k.1
  · rw [Int.natAbs_mul]; exact Nat.mul_le_mul (by simpa using h.2) (by simpa using k.2)
theorem Bd.add {N D N' D' : Nat} {a b : Rat} (h : Bd N D a) (k : Bd N' D' b) : Bd (N * D' + N' * D) (D * D') (a + b) := by
  have da := a.den_pos
  have db := b.den_pos
  have e : a + b = Rat.divInt (a.num * b.den + b.num * a.den) ((a.den : Int) * b.den) := by
    conv => lhs; rw [← rat_self a, ← rat_self b, Rat.divInt_add_divInt _ _ (by omega) (by omega)]
  rw [e]
  have pd : (0 : Int) < (a.den : Int) * b.den := Int.mul_pos (by omega) (by omega)
  refine (bd_divInt pd).mono ?_ ?_
  · refine Nat.le_trans (Int.natAbs_add_le _ _) (Nat.add_le_add ?_ ?_)
    · rw [Int.natAbs_mul]; exact Nat.mul_le_mul h.1 (by simpa using k.2)
    · rw [Int.natAbs_mul]; exact Nat.mul_le_mul k.1 (by simpa using h.2)
  · rw [Int.natAbs_mul]; exact Nat.mul_le_mul (by simpa using h.2) (by simpa using k.2)
theorem Bd.sub {N D N' D' : Nat} {a b : Rat} (h : Bd N D a) (k : Bd N' D' b) : Bd (N * D' + N' * D) (D * D') (a - b) := by
  rw [Rat.sub_eq_add_neg]; exact h.add k.neg
theorem Bd.min {N D N' D' : Nat} {a b : Rat} (h : Bd N D a) (k : Bd N' D' b) : Bd (Nat.max N N') (Nat.max D D') (rmin a b) := by
  unfold rmin; split
  · exact k.mono (Nat.le_max_right _ _) (Nat.le_max_right _ _)
  · exact h.mono (Nat.le_max_left _ _) (Nat.le_max_left _ _)
theorem Bd.max {N D N' D' : Nat} {a b : Rat} (h : Bd N D a) (k : Bd N' D' b) : Bd (Nat.max N N') (Nat.max D D') (rmax a b) := by
  unfold rmax; split
  · exact k.mono (Nat.le_max_right _ _) (Nat.le_max_right _ _)
  · exact h.mono (Nat.le_max_left _ _) (Nat.le_max_left _ _)
theorem Bd.int (n : Int) : Bd n.natAbs 1 (n : Rat) := by unfold Bd; rw [Rat.num_intCast, Rat.den_intCast]; exact ⟨Nat.le_refl _, Nat.le_refl _⟩
end Go.Proofs.Ytadifmimefmcnaa.Am.Sp
set_option linter.unusedVariables false
set_option linter.unusedSimpArgs false
namespace Go.Proofs.Ytadifmimefmcnaa.Am.Sp
def d6 (k : Int) : Int := if k = 0 then 1 else if k = 1 then 2 else if k = 2 then 3 else if k = 3 then 4 else if k = 4 then 5 else 7
theorem Bd.inv0 {N D : Nat} {q : Rat} (h : Bd N D q) (k : 0 < q.num) : Bd D N q⁻¹ := by
  obtain ⟨h1, h2⟩ := h
  rw [Rat.inv_def]; exact Bd.mono (bd_divInt k) (by omega) (by omega)
theorem Bd.inv {N D : Nat} {q : Rat} (h : Bd N D q) (hq : q ≠ 0) : Bd D N q⁻¹ := by
  have hn : q.num ≠ 0 := by rw [Ne, Rat.num_eq_zero]; exact hq
  rcases Int.lt_or_gt_of_ne hn with k | k
  · rw [show q⁻¹ = -((-q)⁻¹) by grind]
    exact (h.neg.inv0 (by rw [Rat.neg_num]; omega)).neg
  · exact h.inv0 k
end Go.Proofs.Ytadifmimefmcnaa.Am.Sp
set_option linter.unusedVariables false
set_option linter.unusedSimpArgs false
namespace Go.Proofs.Ytadifmimefmcnaa.Am.Sp
def sgS (a b c d : Int) : Bool := gd a b && (gd c d && decide (rv a b ≤ rv c d))
def sl (a b c d : Int) : Rat := if sgS a b c d = true then rv a b else ((0 : Int) : Rat)
def al4 (p q r s : Rat) : Bool := fitq p && (fitq q && (fitq r && fitq s))
def e4 (p q r s : Rat) : Int := if al4 p q r s = true then 0 else 2
end Go.Proofs.Ytadifmimefmcnaa.Am.Sp
set_option linter.unusedVariables false
set_option linter.unusedSimpArgs false
namespace Go.Proofs.Ytadifmimefmcnaa.Am.Sp
def al2 (p q : Rat) : Bool := fitq p && fitq q
def e2 (p q : Rat) : Int := if al2 p q = true then 0 else 2
end Go.Proofs.Ytadifmimefmcnaa.Am.Sp
set_option linter.unusedVariables false
set_option linter.unusedSimpArgs false
namespace Go.Proofs.Ytadifmimefmcnaa.Am.Sp
end Go.Proofs.Ytadifmimefmcnaa.Am.Sp
set_option linter.unusedVariables false
set_option linter.unusedSimpArgs false
namespace Go.Proofs.Ytadifmimefmcnaa.Am.Sp
end Go.Proofs.Ytadifmimefmcnaa.Am.Sp

set_option linter.unusedVariables false
set_option linter.unusedSimpArgs false
namespace Go.Proofs.Ytadifmimefmcnaa.Am.Sp
def has2 (l : List (Int × Int)) (px py : Int) : Bool := l.any (fun z => z.1 == px && (z.2 == py && true))
def addb (l : List (Int × Int)) (px py qx qy rx ry : Int) : Bool := onb qx qy rx ry px py && !(has2 l px py)
def addp (l : List (Int × Int)) (px py qx qy rx ry : Int) : List (Int × Int) := if addb l px py qx qy rx ry = true then l ++ [(px, py)] else l
/-- the ends of two segments that are on both -/
def shr (ax ay bx b_y cx cy dx dy : Int) : List (Int × Int) :=
  addp (addp (addp (addp [] ax ay cx cy dx dy) bx b_y cx cy dx dy) cx cy ax ay bx b_y) dx dy ax ay bx b_y
/-- two segments cross between their ends -/
def prp (ax ay bx b_y cx cy dx dy : Int) : Bool :=
  decide (cmp (crs ax ay bx b_y cx cy) 0 * cmp (crs ax ay bx b_y dx dy) 0 < 0) && decide (cmp (crs cx cy dx dy ax ay) 0 * cmp (crs cx cy dx dy bx b_y) 0 < 0)
def meetN (ax ay bx b_y cx cy dx dy : Int) : Int :=
  if prp ax ay bx b_y cx cy dx dy = true then 1 else mn 2 ((shr ax ay bx b_y cx cy dx dy).length : Int)
theorem addp_y {l px py qx qy rx ry} (h : addb l px py qx qy rx ry = true) : addp l px py qx qy rx ry = l ++ [(px, py)] := by unfold addp; rw [if_pos h]
theorem addp_n {l px py qx qy rx ry} (h : addb l px py qx qy rx ry = false) : addp l px py qx qy rx ry = l := by unfold addp; rw [if_neg (by rw [h]; decide)]
theorem has2_iff (l : List (Int × Int)) (px py : Int) : has2 l px py = true ↔ (px, py) ∈ l := by
  unfold has2
  rw [List.any_eq_true]
  constructor
  · rintro ⟨⟨x, y⟩, hm, h⟩
    simp only [Bool.and_true, Bool.and_eq_true, beq_iff_eq] at h
    obtain ⟨rfl, rfl⟩ := h; exact hm
  · intro h; exact ⟨_, h, by simp⟩
theorem mem_addp {l : List (Int × Int)} {px py qx qy rx ry : Int} {z : Int × Int} : z ∈ addp l px py qx qy rx ry ↔ z ∈ l ∨ (z = (px, py) ∧ onb qx qy rx ry px py = true) := by
  unfold addp addb
  cases h1 : onb qx qy rx ry px py <;> cases h2 : has2 l px py <;> simp
  rw [has2_iff] at h2
  intro h; rw [h]; exact h2
theorem nodup_addp {l : List (Int × Int)} {px py qx qy rx ry : Int} (h : l.Nodup) : (addp l px py qx qy rx ry).Nodup := by
  unfold addp
  split
  · next hb =>
    rw [List.nodup_append]
    refine ⟨h, by simp, ?_⟩
    intro a ha b hb' e
    unfold addb at hb
    simp only [List.mem_singleton] at hb'
    subst hb'; subst e
    rw [(has2_iff ..).2 ha] at hb; simp at hb
  · exact h
theorem mem_shr {ax ay bx b_y cx cy dx dy : Int} {z : Int × Int} : z ∈ shr ax ay bx b_y cx cy dx dy ↔
    (z = (ax, ay) ∧ onb cx cy dx dy ax ay = true) ∨ (z = (bx, b_y) ∧ onb cx cy dx dy bx b_y = true) ∨ (z = (cx, cy) ∧ onb ax ay bx b_y cx cy = true) ∨ (z = (dx, dy) ∧ onb ax ay bx b_y dx dy = true) := by
  unfold shr; simp only [mem_addp]; simp [or_assoc]
theorem nodup_shr (ax ay bx b_y cx cy dx dy : Int) : (shr ax ay bx b_y cx cy dx dy).Nodup := by
  unfold shr; exact nodup_addp (nodup_addp (nodup_addp (nodup_addp List.nodup_nil)))
theorem sgn_mul_le (x y : Int) : sgn x * sgn y ≤ 0 ↔ x * y ≤ 0 := by
  unfold sgn
  rcases Int.lt_trichotomy x 0 with h | h | h <;> rcases Int.lt_trichotomy y 0 with k | k | k
  · have := Int.mul_pos_of_neg_of_neg h k; simp [h, k]; omega
  · subst k; simp
  · have := Int.mul_neg_of_neg_of_pos h k; simp [h, k, show ¬ y < 0 by omega]; omega
  · subst h; simp
  · subst h; simp
  · subst h; simp
  · have := Int.mul_neg_of_pos_of_neg h k; simp [h, k, show ¬ x < 0 by omega]; omega
  · subst k; simp
  · have := Int.mul_pos h k; simp [h, k, show ¬ x < 0 by omega, show ¬ y < 0 by omega]; omega
theorem sgn_mul_lt (x y : Int) : sgn x * sgn y < 0 ↔ x * y < 0 := by
  unfold sgn
  rcases Int.lt_trichotomy x 0 with h | h | h <;> rcases Int.lt_trichotomy y 0 with k | k | k
  · have := Int.mul_pos_of_neg_of_neg h k; simp [h, k]; omega
  · subst k; simp
  · have := Int.mul_neg_of_neg_of_pos h k; simp [h, k, show ¬ y < 0 by omega]; omega
  · subst h; simp
  · subst h; simp
  · subst h; simp
  · have := Int.mul_neg_of_pos_of_neg h k; simp [h, k, show ¬ x < 0 by omega]; omega
  · subst k; simp
  · have := Int.mul_pos h k; simp [h, k, show ¬ x < 0 by omega, show ¬ y < 0 by omega]; omega
theorem cmp_mul_lt (x y : Int) : cmp x 0 * cmp y 0 < 0 ↔ x * y < 0 := by
  have e : ∀ z, cmp z 0 = sgn z := fun z => by unfold cmp sgn; (repeat' split) <;> omega
  rw [e, e, sgn_mul_lt]
theorem prp_iff (ax ay bx b_y cx cy dx dy : Int) : prp ax ay bx b_y cx cy dx dy = true ↔ crs ax ay bx b_y cx cy * crs ax ay bx b_y dx dy < 0 ∧ crs cx cy dx dy ax ay * crs cx cy dx dy bx b_y < 0 := by
  unfold prp; rw [Bool.and_eq_true, decide_eq_true_eq, decide_eq_true_eq, cmp_mul_lt, cmp_mul_lt]
end Go.Proofs.Ytadifmimefmcnaa.Am.Sp

set_option linter.unusedVariables false
set_option linter.unusedSimpArgs false
namespace Go.Proofs.Ytadifmimefmcnaa.Am.Sp
/-- from + way * num / den -/
def alg (f w n d : Int) : Rat := ((f : Int) : Rat) + ((w * n : Int) : Rat) / ((d : Int) : Rat)
theorem alg_neg (f w n d : Int) : alg f w (0 - n) (0 - d) = alg f w n d := by
  unfold alg
  rw [Int.zero_sub, Int.zero_sub, Int.mul_neg, Rat.intCast_neg, Rat.intCast_neg]
  grind
theorem alg_eq {f w n d : Int} (hd : d ≠ 0) : alg f w n d * ((d : Int) : Rat) = ((f * d + w * n : Int) : Rat) := by
  unfold alg
  have h : ((d : Int) : Rat) ≠ 0 := by rw [Ne, Rat.intCast_eq_zero_iff]; omega
  rw [Rat.intCast_add, Rat.intCast_mul f d]
  grind
theorem alg_le {f w n d k : Int} (hd : 0 < d) : alg f w n d ≤ ((k : Int) : Rat) ↔ f * d + w * n ≤ k * d := by
  have a := alg_eq (f := f) (w := w) (n := n) (d := d) (by omega)
  have hd' : (0 : Rat) < ((d : Int) : Rat) := by rw [show (0 : Rat) = ((0 : Int) : Rat) by rfl, Rat.intCast_lt_intCast]; exact hd
  rw [← Rat.intCast_le_intCast, ← a, Rat.intCast_mul]
  constructor
  · intro h; exact Rat.mul_le_mul_of_nonneg_right h (Rat.le_of_lt hd')
  · intro h; exact Rat.le_of_mul_le_mul_right h hd'
theorem le_alg {f w n d k : Int} (hd : 0 < d) : ((k : Int) : Rat) ≤ alg f w n d ↔ k * d ≤ f * d + w * n := by
  have a := alg_eq (f := f) (w := w) (n := n) (d := d) (by omega)
  have hd' : (0 : Rat) < ((d : Int) : Rat) := by rw [show (0 : Rat) = ((0 : Int) : Rat) by rfl, Rat.intCast_lt_intCast]; exact hd
  rw [← Rat.intCast_le_intCast, ← a, Rat.intCast_mul]
  constructor
  · intro h; exact Rat.mul_le_mul_of_nonneg_right h (Rat.le_of_lt hd')
  · intro h; exact Rat.le_of_mul_le_mul_right h hd'
end Go.Proofs.Ytadifmimefmcnaa.Am.Sp
set_option linter.unusedVariables false
set_option linter.unusedSimpArgs false
namespace Go.Proofs.Ytadifmimefmcnaa.Am.Sp
theorem addb_on {l px py qx qy rx ry} (h : addb l px py qx qy rx ry = true) : onb qx qy rx ry px py = true := by
  unfold addb at h; rw [Bool.and_eq_true] at h; exact h.1
theorem addb_no {l px py qx qy rx ry} (h : addb l px py qx qy rx ry = true) : has2 l px py = false := by
  unfold addb at h; rw [Bool.and_eq_true] at h; simpa using h.2
theorem has2_mem {l : List (Int × Int)} {x y px py : Int} (hm : (x, y) ∈ l) (h : has2 l px py = false) : ((x == px) && ((y == py) && true)) = false := by
  unfold has2 at h
  rw [List.any_eq_false] at h
  have := h _ hm
  simpa using this
theorem cmp3 (ax ay bx b_y cx cy dx dy : Int) : (-1 ≤ cmp (crs ax ay bx b_y cx cy) 0 * cmp (crs ax ay bx b_y dx dy) 0 ∧ cmp (crs ax ay bx b_y cx cy) 0 * cmp (crs ax ay bx b_y dx dy) 0 ≤ 1) ∧
    (-1 ≤ cmp (crs cx cy dx dy ax ay) 0 * cmp (crs cx cy dx dy bx b_y) 0 ∧ cmp (crs cx cy dx dy ax ay) 0 * cmp (crs cx cy dx dy bx b_y) 0 ≤ 1) := by
  have a := cmp_bd (crs ax ay bx b_y cx cy) 0
  have b := cmp_bd (crs ax ay bx b_y dx dy) 0
  have c := cmp_bd (crs cx cy dx dy ax ay) 0
  have d := cmp_bd (crs cx cy dx dy bx b_y) 0
  have p := mul_bd a.1 a.2 b.1 b.2
  have q := mul_bd c.1 c.2 d.1 d.2
  omega
theorem meetN_one {ax ay bx b_y cx cy dx dy x y : Int} (h : shr ax ay bx b_y cx cy dx dy = [(x, y)]) : meetN ax ay bx b_y cx cy dx dy = 1 := by
  unfold meetN; rw [h]
  split <;> rfl
theorem between {p q n m : Int} (h : (n < 0 ∧ 0 < m) ∨ (0 < n ∧ m < 0)) {lo hi : Int} (h0 : lo ≤ p) (h1 : lo ≤ q) (h2 : p ≤ hi) (h3 : q ≤ hi) :
    ((lo : Int) : Rat) ≤ alg p (q - p) n (n - m) ∧ alg p (q - p) n (n - m) ≤ ((hi : Int) : Rat) := by
  have main : ∀ n m : Int, 0 < n → m < 0 → ((lo : Int) : Rat) ≤ alg p (q - p) n (n - m) ∧ alg p (q - p) n (n - m) ≤ ((hi : Int) : Rat) := by
    intro n m a b
    rw [le_alg (by omega), alg_le (by omega)]
    have e : p * (n - m) + (q - p) * n = p * (-m) + q * n := by grind
    rw [e]
    have a1 := Int.mul_le_mul_of_nonneg_right h0 (show 0 ≤ -m by omega)
    have a2 := Int.mul_le_mul_of_nonneg_right h1 (show 0 ≤ n by omega)
    have a3 := Int.mul_le_mul_of_nonneg_right h2 (show 0 ≤ -m by omega)
    have a4 := Int.mul_le_mul_of_nonneg_right h3 (show 0 ≤ n by omega)
    have e2 : lo * (n - m) = lo * (-m) + lo * n := by grind
    have e3 : hi * (n - m) = hi * (-m) + hi * n := by grind
    rw [e2, e3]
    omega
  rcases h with ⟨a, b⟩ | ⟨a, b⟩
  · have := main (0 - n) (0 - m) (by omega) (by omega)
    rw [show 0 - n - (0 - m) = 0 - (n - m) by omega, alg_neg] at this
    exact this
  · exact main n m a b
def sqn (px py ax ay bx b_y : Int) : Int := if dot ax ay bx b_y px py ≤ 0 then dot ax ay px py px py else if dot ax ay bx b_y px py ≥ dot ax ay bx b_y bx b_y then dot bx b_y px py px py else crs ax ay bx b_y px py * crs ax ay bx b_y px py
def sqd (px py ax ay bx b_y : Int) : Int := if dot ax ay bx b_y px py ≤ 0 then 1 else if dot ax ay bx b_y px py ≥ dot ax ay bx b_y bx b_y then 1 else dot ax ay bx b_y bx b_y
theorem sq_cases (px py ax ay bx b_y : Int) :
    (dot ax ay bx b_y px py ≤ 0 → dot ax ay px py px py = sqn px py ax ay bx b_y ∧ 1 = sqd px py ax ay bx b_y) ∧
    (¬ dot ax ay bx b_y px py ≤ 0 → dot ax ay bx b_y px py ≥ dot ax ay bx b_y bx b_y → dot bx b_y px py px py = sqn px py ax ay bx b_y ∧ 1 = sqd px py ax ay bx b_y) ∧
    (¬ dot ax ay bx b_y px py ≤ 0 → ¬ dot ax ay bx b_y px py ≥ dot ax ay bx b_y bx b_y → crs ax ay bx b_y px py * crs ax ay bx b_y px py = sqn px py ax ay bx b_y ∧ dot ax ay bx b_y bx b_y = sqd px py ax ay bx b_y) := by
  unfold sqn sqd
  refine ⟨fun h => ?_, fun h k => ?_, fun h k => ?_⟩
  · rw [if_pos h, if_pos h]; exact ⟨rfl, rfl⟩
  · rw [if_neg h, if_neg h, if_pos k, if_pos k]; exact ⟨rfl, rfl⟩
  · rw [if_neg h, if_neg h, if_neg k, if_neg k]; exact ⟨rfl, rfl⟩
theorem dist_num (px py ax ay bx b_y : Int) : dot ax ay px py px py * dot ax ay bx b_y bx b_y - dot ax ay bx b_y px py * dot ax ay bx b_y px py = crs ax ay bx b_y px py * crs ax ay bx b_y px py := by
  have := lagrange ax ay bx b_y px py
  have e := Int.mul_comm (dot ax ay px py px py) (dot ax ay bx b_y bx b_y)
  omega
theorem dot_bd2 {ax ay px py : Int} (axl : -1048576 ≤ ax) (axu : ax ≤ 1048576) (ayl : -1048576 ≤ ay) (ayu : ay ≤ 1048576) (pxl : -1048576 ≤ px) (pxu : px ≤ 1048576) (pyl : -1048576 ≤ py) (pyu : py ≤ 1048576) :
    0 ≤ dot ax ay px py px py ∧ dot ax ay px py px py ≤ 8796093022208 := by
  refine ⟨dot_nonneg .., ?_⟩
  unfold dot
  have p1 := mul_bd (a := px - ax) (b := px - ax) (A := 2097152) (B := 2097152) (by omega) (by omega) (by omega) (by omega)
  have p2 := mul_bd (a := py - ay) (b := py - ay) (A := 2097152) (B := 2097152) (by omega) (by omega) (by omega) (by omega)
  omega
theorem sq_all {px py ax ay bx b_y : Int} (pxl : -1048576 ≤ px) (pxu : px ≤ 1048576) (pyl : -1048576 ≤ py) (pyu : py ≤ 1048576)
    (axl : -1048576 ≤ ax) (axu : ax ≤ 1048576) (ayl : -1048576 ≤ ay) (ayu : ay ≤ 1048576) (bxl : -1048576 ≤ bx) (bxu : bx ≤ 1048576) (b_yl : -1048576 ≤ b_y) (b_yu : b_y ≤ 1048576) :
    (0 ≤ sqn px py ax ay bx b_y ∧ sqn px py ax ay bx b_y ≤ 8796093022208 * sqd px py ax ay bx b_y) ∧ (1 ≤ sqd px py ax ay bx b_y ∧ sqd px py ax ay bx b_y ≤ 8796093022208) := by
  have d1 := dot_bd2 axl axu ayl ayu pxl pxu pyl pyu
  have d2 := dot_bd2 bxl bxu b_yl b_yu pxl pxu pyl pyu
  have d3 := dot_bd2 axl axu ayl ayu bxl bxu b_yl b_yu
  unfold sqn sqd
  split
  · omega
  · split
    · omega
    · have l := dist_num px py ax ay bx b_y
      have s1 := sqr_nonneg (crs ax ay bx b_y px py)
      have s2 := sqr_nonneg (dot ax ay bx b_y px py)
      have m := Int.mul_le_mul_of_nonneg_right d1.2 d3.1
      omega
theorem sq_bd (px py ax ay bx b_y : Int) (pxl : -1048576 ≤ px) (pxu : px ≤ 1048576) (pyl : -1048576 ≤ py) (pyu : py ≤ 1048576)
    (axl : -1048576 ≤ ax) (axu : ax ≤ 1048576) (ayl : -1048576 ≤ ay) (ayu : ay ≤ 1048576) (bxl : -1048576 ≤ bx) (bxu : bx ≤ 1048576) (b_yl : -1048576 ≤ b_y) (b_yu : b_y ≤ 1048576) :
    (0 ≤ sqn px py ax ay bx b_y ∧ sqn px py ax ay bx b_y ≤ 77371252455336267181195264) ∧ (1 ≤ sqd px py ax ay bx b_y ∧ sqd px py ax ay bx b_y ≤ 8796093022208) := by
  have h := sq_all pxl pxu pyl pyu axl axu ayl ayu bxl bxu b_yl b_yu
  omega
def wthn (px py ax ay bx b_y k : Int) : Bool := decide (0 ≤ k) && decide (sqn px py ax ay bx b_y ≤ mn k 4194304 * mn k 4194304 * sqd px py ax ay bx b_y)
theorem wthn_neg {px py ax ay bx b_y k : Int} (h : mn k 4194304 < 0) : wthn px py ax ay bx b_y k = false := by
  unfold wthn; rw [decide_eq_false (by unfold mn at h; split at h <;> omega)]; rfl
theorem wthn_pos {px py ax ay bx b_y k : Int} (h : ¬ mn k 4194304 < 0) : wthn px py ax ay bx b_y k = decide (sqn px py ax ay bx b_y ≤ mn k 4194304 * mn k 4194304 * sqd px py ax ay bx b_y) := by
  unfold wthn; rw [decide_eq_true (by unfold mn at h; split at h <;> omega)]; rfl
theorem cmp_le_dec (a b : Int) : decide (cmp a b ≤ 0) = decide (a ≤ b) := by rw [Bool.eq_iff_iff, decide_eq_true_eq, decide_eq_true_eq]; exact cmp_le a b
theorem mn_by (k : Int) : mn k 4194304 ≤ 4194304 ∧ (¬ mn k 4194304 < 0 → (0 ≤ mn k 4194304 * mn k 4194304 ∧ mn k 4194304 * mn k 4194304 ≤ 17592186044416)) := by
  have h : mn k 4194304 ≤ 4194304 := by unfold mn; split <;> omega
  refine ⟨h, fun h0 => ?_⟩
  have := mul_bd (a := mn k 4194304) (b := mn k 4194304) (A := 4194304) (B := 4194304) (by omega) (by omega) (by omega) (by omega)
  have := sqr_nonneg (mn k 4194304)
  omega
theorem mn_sq (k d : Int) (h0 : 1 ≤ d) (h1 : d ≤ 8796093022208) : ¬ mn k 4194304 < 0 → (0 ≤ mn k 4194304 * mn k 4194304 * d ∧ mn k 4194304 * mn k 4194304 * d ≤ 154742504910672534362390528) := by
  intro h
  have a := (mn_by k).2 h
  generalize mn k 4194304 * mn k 4194304 = x at *
  have b := Int.mul_nonneg a.1 (show 0 ≤ d by omega)
  have c := Int.mul_le_mul_of_nonneg_right a.2 (show 0 ≤ d by omega)
  omega
end Go.Proofs.Ytadifmimefmcnaa.Am.Sp

set_option linter.unusedVariables false
set_option linter.unusedSimpArgs false
namespace Go.Proofs.Ytadifmimefmcnaa.Am.Sp
/-- the corner is in the quarter between the ray to the right and the ray down -/
def qd4 (x y : Int) : Bool := decide (0 ≤ x) && decide (y < 0)
end Go.Proofs.Ytadifmimefmcnaa.Am.Sp
set_option linter.unusedVariables false
set_option linter.unusedSimpArgs false
namespace Go.Proofs.Ytadifmimefmcnaa.Am.Sp
def q4 (p a : Int × Int) : Bool := qd4 (a.1 - p.1) (a.2 - p.2)
end Go.Proofs.Ytadifmimefmcnaa.Am.Sp
set_option linter.unusedVariables false
set_option linter.unusedSimpArgs false
namespace Go.Proofs.Ytadifmimefmcnaa.Am.Sp
end Go.Proofs.Ytadifmimefmcnaa.Am.Sp
set_option linter.unusedVariables false
set_option linter.unusedSimpArgs false
namespace Go.Proofs.Ytadifmimefmcnaa.Am.Sp
def cA (ps : List (Int × Int)) (i : Nat) : Int := lim 1048576 (ps.getD i (0, 0)).1
def cB (ps : List (Int × Int)) (i : Nat) : Int := lim 1048576 (ps.getD i (0, 0)).2
variable {ax ay bx b_y x y : Int}
theorem getD_lt {l : List (Int × Int)} {i : Nat} {d : Int × Int} (h : i < l.length) : l.getD i d = l[i] := by simp [List.getD, h]
end Go.Proofs.Ytadifmimefmcnaa.Am.Sp

set_option linter.unusedVariables false
set_option linter.unusedSimpArgs false
namespace Go.Proofs.Ytadifmimefmcnaa.Am.Sp
open Go
theorem getD_mem {ps : List (Int × Int)} {q : Int × Int} (h : q ∈ ps) : ∃ i, ps.getD i (0, 0) = q := by
  obtain ⟨i, hi, e⟩ := List.mem_iff_getElem.1 h
  exact ⟨i, by rw [getD_lt hi, e]⟩
/-- all coordinates are small -/
def Few (m : Int) (ps : List (Int × Int)) : Prop := ∀ i, (-m ≤ (ps.getD i (0, 0)).1 ∧ (ps.getD i (0, 0)).1 ≤ m) ∧ (-m ≤ (ps.getD i (0, 0)).2 ∧ (ps.getD i (0, 0)).2 ≤ m)
theorem few_of {m : Int} {ps : List (Int × Int)} (hm : 0 ≤ m) (h : ∀ q ∈ ps, (-m ≤ q.1 ∧ q.1 ≤ m) ∧ (-m ≤ q.2 ∧ q.2 ≤ m)) : Few m ps := by
  intro i
  by_cases hi : i < ps.length
  · rw [getD_lt hi]; exact h _ (List.getElem_mem hi)
  · simp [List.getD, List.getElem?_eq_none (Nat.le_of_not_lt hi)]; omega
theorem few_mem {m : Int} {ps : List (Int × Int)} (h : Few m ps) {q : Int × Int} (hq : q ∈ ps) : (-m ≤ q.1 ∧ q.1 ≤ m) ∧ (-m ≤ q.2 ∧ q.2 ≤ m) := by
  obtain ⟨i, e⟩ := getD_mem hq
  rw [← e]; exact h i
/-- twice the area, as the code adds it up: from the corner k on -/
def twF (ps : List (Int × Int)) (k : Nat) (s : Int) : Int :=
  if k + 1 < ps.length then twF ps (k + 1) (IntKind.wrap .i64 (s + crs (cA ps 0) (cB ps 0) (cA ps k) (cB ps k) (cA ps (k + 1)) (cB ps (k + 1)))) else s
termination_by ps.length - k
theorem twF_end {ps : List (Int × Int)} {k : Nat} {s : Int} (h : ¬ k + 1 < ps.length) : twF ps k s = s := by rw [twF, if_neg h]
end Go.Proofs.Ytadifmimefmcnaa.Am.Sp

set_option linter.unusedVariables false
set_option linter.unusedSimpArgs false
namespace Go.Proofs.Ytadifmimefmcnaa.Am.Sp
theorem getD_apl {β : Type} {l l' : List β} {i : Nat} {x : β} (h : i < l.length) : (l ++ l').getD i x = l.getD i x := by
  rw [List.getD_eq_getElem?_getD, List.getD_eq_getElem?_getD, List.getElem?_append_left h]
theorem getD_apr {β : Type} {l l' : List β} {i : Nat} {x : β} (h : l.length ≤ i) : (l ++ l').getD i x = l'.getD (i - l.length) x := by
  rw [List.getD_eq_getElem?_getD, List.getD_eq_getElem?_getD, List.getElem?_append_right h]
section
variable {α : Type} {W : α → α → α → Bool} {d : α → α → α → Int} {z : α}
/-- the first of those points between two that are not near, and farthest -/
def Best (W : α → α → α → Bool) (d : α → α → α → Int) (z : α) (l : List α) (f t m : Nat) : Prop :=
  (f < m ∧ m < t) ∧ W (l.getD m z) (l.getD f z) (l.getD t z) = false ∧
    ∀ i, f < i → i < t → W (l.getD i z) (l.getD f z) (l.getD t z) = false → d (l.getD i z) (l.getD f z) (l.getD t z) ≤ d (l.getD m z) (l.getD f z) (l.getD t z) ∧ (i < m → d (l.getD i z) (l.getD f z) (l.getD t z) < d (l.getD m z) (l.getD f z) (l.getD t z))
inductive Thin (W : α → α → α → Bool) (d : α → α → α → Int) (z : α) (l : List α) : Nat → Nat → List Nat → Prop
  | nil {f t : Nat} (h : f < t) (hn : ∀ i, f < i → i < t → W (l.getD i z) (l.getD f z) (l.getD t z) = true) : Thin W d z l f t []
  | cons {f m t : Nat} {J K : List Nat} (h : Best W d z l f t m) (h1 : Thin W d z l f m J) (h2 : Thin W d z l m t K) : Thin W d z l f t (J ++ m :: K)
theorem Thin.lt {l : List α} {f t : Nat} {J : List Nat} (h : Thin W d z l f t J) : f < t := by
  cases h with
  | nil h _ => exact h
  | cons h _ _ => have := h.1; omega
/-- what is kept is strictly between, and rises -/
theorem Thin.rise {l : List α} {f t : Nat} {J : List Nat} (h : Thin W d z l f t J) : (∀ j ∈ J, f < j ∧ j < t) ∧ J.Pairwise (· < ·) := by
  induction h with
  | nil h hn => exact ⟨by simp, .nil⟩
  | @cons f m t J K h h1 h2 i1 i2 =>
    have a := h.1
    refine ⟨fun j hj => ?_, ?_⟩
    · rcases List.mem_append.1 hj with q | q
      · have := i1.1 j q; omega
      · rcases List.mem_cons.1 q with rfl | q
        · exact a
        · have := i2.1 j q; omega
    · refine List.pairwise_append.2 ⟨i1.2, List.pairwise_cons.2 ⟨fun j q => (i2.1 j q).1, i2.2⟩, fun x hx y hy => ?_⟩
      have := i1.1 x hx
      rcases List.mem_cons.1 hy with rfl | q
      · omega
      · have := i2.1 y q; omega
/-- every point between is kept, or near the edge over it -/
theorem Thin.near {l : List α} {f t : Nat} {J : List Nat} (h : Thin W d z l f t J) : ∀ i, f < i → i < t → i ∈ J ∨ ∃ k, k ≤ J.length ∧ W (l.getD i z) (l.getD ((f :: (J ++ [t])).getD k 0) z) (l.getD ((f :: (J ++ [t])).getD (k + 1) 0) z) = true := by
  induction h with
  | nil h hn => intro i a b; exact .inr ⟨0, Nat.le_refl _, hn i a b⟩
  | @cons f m t J K h h1 h2 i1 i2 =>
    intro i a b
    rcases Nat.lt_trichotomy i m with c | c | c
    · rcases i1 i a c with q | ⟨k, hk, q⟩
      · exact .inl (List.mem_append.2 (.inl q))
      · refine .inr ⟨k, by simp; omega, ?_⟩
        have e1 : (f :: (J ++ m :: K ++ [t])).getD k 0 = (f :: (J ++ [m])).getD k 0 := by
          cases k with
          | zero => rfl
          | succ k => simp only [List.getD_cons_succ, List.append_assoc]; rw [getD_apl (by omega), getD_apl (by omega)]
        have e2 : (f :: (J ++ m :: K ++ [t])).getD (k + 1) 0 = (f :: (J ++ [m])).getD (k + 1) 0 := by
          simp only [List.getD_cons_succ, List.append_assoc]
          rcases Nat.lt_or_ge k J.length with g | g
          · rw [getD_apl g, getD_apl g]
          · obtain rfl : k = J.length := by omega
            rw [getD_apr (l := J) (by omega), getD_apr (l := J) (by omega)]; simp
        rw [e1, e2]; exact q
    · exact .inl (by subst c; simp)
    · rcases i2 i c b with q | ⟨k, hk, q⟩
      · exact .inl (List.mem_append.2 (.inr (List.mem_cons_of_mem _ q)))
      · refine .inr ⟨J.length + 1 + k, by simp; omega, ?_⟩
        have e : ∀ k, (f :: (J ++ m :: K ++ [t])).getD (J.length + 1 + k) 0 = (m :: (K ++ [t])).getD k 0 := by
          intro k
          rw [show J.length + 1 + k = (J.length + k) + 1 by omega, List.getD_cons_succ, List.append_assoc, getD_apr (by omega), show J.length + k - J.length = k by omega]; simp
        rw [e k, show J.length + 1 + k + 1 = J.length + 1 + (k + 1) by omega, e (k + 1)]; exact q
end
end Go.Proofs.Ytadifmimefmcnaa.Am.Sp
set_option linter.unusedVariables false
set_option linter.unusedSimpArgs false
namespace Go.Proofs.Ytadifmimefmcnaa.Am.Sp
def dq (px py ax ay bx b_y : Int) : Int := sqn px py ax ay bx b_y * Int.tdiv (mx 1 (dot ax ay bx b_y bx b_y)) (sqd px py ax ay bx b_y)
def farB (px py qx qy ax ay bx b_y : Int) : Bool := decide (dq qx qy ax ay bx b_y < dq px py ax ay bx b_y)
def wtP (tol : Int) (p a b : Int × Int) : Bool := wthn p.1 p.2 a.1 a.2 b.1 b.2 (mx tol 0)
def dqP (p a b : Int × Int) : Int := dq p.1 p.2 a.1 a.2 b.1 b.2
def ThinP (ps : List (Int × Int)) (tol : Int) (f t : Nat) (J : List Nat) : Prop := Thin (wtP tol) dqP (0, 0) ps f t J
def wq (ps : List (Int × Int)) (tol : Int) (f t i : Nat) : Bool := wthn (ps.getD i (0, 0)).1 (ps.getD i (0, 0)).2 (ps.getD f (0, 0)).1 (ps.getD f (0, 0)).2 (ps.getD t (0, 0)).1 (ps.getD t (0, 0)).2 (mx tol 0)
def fq (ps : List (Int × Int)) (f t i m : Nat) : Bool := farB (ps.getD i (0, 0)).1 (ps.getD i (0, 0)).2 (ps.getD m (0, 0)).1 (ps.getD m (0, 0)).2 (ps.getD f (0, 0)).1 (ps.getD f (0, 0)).2 (ps.getD t (0, 0)).1 (ps.getD t (0, 0)).2
/-- the best so far of n points, and one; 0: none -/
def scn (ps : List (Int × Int)) (tol : Int) (f t : Nat) : Nat → Nat
  | 0 => 0
  | n + 1 => if wq ps tol f t (f + n + 1) = false ∧ (scn ps tol f t n = 0 ∨ fq ps f t (f + n + 1) (scn ps tol f t n - 1) = true) then f + n + 2 else scn ps tol f t n
section
variable {ps : List (Int × Int)} {tol : Int} {f t e b : Nat}
end
def setJ (kp : List Bool) (J : List Nat) : List Bool := (List.range kp.length).map (fun i => kp.getD i false || decide (i ∈ J))
theorem setJ_get {kp : List Bool} {J : List Nat} {i : Nat} (h : i < kp.length) : (setJ kp J).getD i false = (kp.getD i false || decide (i ∈ J)) := by
  rw [List.getD_eq_getElem?_getD, setJ, List.getElem?_map, List.getElem?_range h]; rfl
/-- the points of a line that are kept, of the first n -/
def slF (ps : List (Int × Int)) (kp : List Bool) : Nat → List (Int × Int)
  | 0 => []
  | n + 1 => if kp.getD n false = true then slF ps kp n ++ [ps.getD n (0, 0)] else slF ps kp n
theorem slF_eq (ps kp n) : slF ps kp n = ((List.range n).filter (fun i => kp.getD i false)).map (fun i => ps.getD i (0, 0)) := by
  induction n with
  | zero => rfl
  | succ n ih =>
    rw [slF, List.range_succ, List.filter_append, List.map_append, ← ih]
    by_cases h : kp.getD n false = true
    · rw [if_pos h, List.filter_cons, if_pos h]; rfl
    · rw [if_neg h, List.filter_cons, if_neg h]; simp
theorem filter_rise (n : Nat) : ∀ (s : Nat) (L : List Nat), (∀ j ∈ L, s ≤ j ∧ j < s + n) → L.Pairwise (· < ·) → (List.range' s n).filter (fun i => decide (i ∈ L)) = L := by
  induction n with
  | zero => intro s L h _; cases L with
    | nil => rfl
    | cons a r => have := h a (by simp); omega
  | succ n ih =>
    intro s L h hp
    rw [List.range'_succ]
    by_cases hs : s ∈ L
    · rw [List.filter_cons, if_pos (by simpa using hs)]
      cases L with
      | nil => simp at hs
      | cons a r =>
        have hr := List.pairwise_cons.1 hp
        have ha : a = s := by
          rcases List.mem_cons.1 hs with q | q
          · exact q.symm
          · have := hr.1 s q; have := h a (by simp); omega
        subst ha
        have := ih (a + 1) r (fun j hj => by have := hr.1 j hj; have := h j (List.mem_cons_of_mem _ hj); omega) hr.2
        congr 1
        refine Eq.trans (List.filter_congr (fun x hx => ?_)) this
        have := List.mem_range'_1.1 hx
        simp only [List.mem_cons]
        have : x ≠ a := by omega
        simp [this]
    · rw [List.filter_cons, if_neg (by simpa using hs)]
      refine ih (s + 1) L (fun j hj => ?_) hp
      have := h j hj
      have : j ≠ s := fun c => hs (c ▸ hj)
      omega
/-- what is kept at first: both ends -/
def kp0 (n : Nat) : List Bool := ((List.replicate n false).set 0 true).set (n - 1) true
theorem kp0_len (n) : (kp0 n).length = n := by simp [kp0]
theorem kp0_get {n i : Nat} (h : i < n) : (kp0 n).getD i false = (decide (i = 0) || decide (i = n - 1)) := by
  unfold kp0
  rw [List.getD_eq_getElem?_getD, List.getElem?_set, List.getElem?_set]
  simp only [List.length_set, List.length_replicate]
  by_cases c : n - 1 = i
  · rw [if_pos c, if_pos (by omega)]; simp [c]
  · rw [if_neg c]
    by_cases c2 : 0 = i
    · rw [if_pos c2, if_pos (by omega)]; simp [← c2]
    · rw [if_neg c2, List.getElem?_replicate, if_pos h]; simp [Ne.symm c, Ne.symm c2]
def ends (n : Nat) (J : List Nat) : List Nat := 0 :: (J ++ [n - 1])
theorem ends_rise {n : Nat} {J : List Nat} (hn : 2 ≤ n) (h : (∀ j ∈ J, 0 < j ∧ j < n - 1) ∧ J.Pairwise (· < ·)) : (∀ j ∈ ends n J, 0 ≤ j ∧ j < 0 + n) ∧ (ends n J).Pairwise (· < ·) := by
  unfold ends
  refine ⟨fun j hj => ?_, ?_⟩
  · rcases List.mem_cons.1 hj with q | q
    · omega
    · rcases List.mem_append.1 q with q | q
      · have := h.1 j q; omega
      · have := List.mem_singleton.1 q; omega
  · refine List.pairwise_cons.2 ⟨fun x hx => ?_, List.pairwise_append.2 ⟨h.2, List.pairwise_singleton _ _, fun x hx y hy => ?_⟩⟩
    · rcases List.mem_append.1 hx with q | q
      · exact (h.1 x q).1
      · have := List.mem_singleton.1 q; omega
    · have := List.mem_singleton.1 hy; have := h.1 x hx; omega
theorem sl_line {ps : List (Int × Int)} {J : List Nat} {n : Nat} (hn : 2 ≤ n) (h : (∀ j ∈ J, 0 < j ∧ j < n - 1) ∧ J.Pairwise (· < ·)) : slF ps (setJ (kp0 n) J) n = (ends n J).map (fun i => ps.getD i (0, 0)) := by
  have R := ends_rise hn h
  rw [slF_eq]; congr 1
  refine Eq.trans ?_ (filter_rise n 0 (ends n J) R.1 R.2)
  rw [List.range_eq_range']
  refine List.filter_congr (fun x hx => ?_)
  have := List.mem_range'_1.1 hx
  rw [setJ_get (by rw [kp0_len]; omega), kp0_get (by omega)]
  unfold ends
  simp only [List.mem_cons, List.mem_append, List.not_mem_nil, or_false]
  by_cases c1 : x = 0 <;> by_cases c2 : x ∈ J <;> by_cases c3 : x = n - 1 <;> simp [c1, c2, c3]
/-- a line and what is left of it -/
def Lined (tol : Int) (ps ys : List (Int × Int)) : Prop := (ps.length < 3 ∧ ys = ps) ∨ (3 ≤ ps.length ∧ ∃ J, ThinP ps tol 0 (ps.length - 1) J ∧ ys = (ends ps.length J).map (fun i => ps.getD i (0, 0)))
end Go.Proofs.Ytadifmimefmcnaa.Am.Sp
set_option linter.unusedVariables false
set_option linter.unusedSimpArgs false
namespace Go.Proofs.Ytadifmimefmcnaa.Am.Sp
theorem Lined.sl {tol : Int} {qs ys : List (Int × Int)} {J : List Nat} (h : 3 ≤ qs.length) (hJ : ThinP qs tol 0 (qs.length - 1) J) (e : ys = (ends qs.length J).map (fun i => qs.getD i (0, 0))) : slF qs (setJ (kp0 qs.length) J) qs.length = ys := by
  rw [e]; exact sl_line (by omega) (Thin.rise hJ)
theorem nl_next {ys : List (Int × Int)} {i k : Nat} {x y b : Int} (hi : 1 ≤ i ∧ i ≤ k + 1) (h : wthn x y (ys.getD (i - 1) (0, 0)).1 (ys.getD (i - 1) (0, 0)).2 (ys.getD i (0, 0)).1 (ys.getD i (0, 0)).2 b = false)
    (hw : wthn x y (ys.getD k (0, 0)).1 (ys.getD k (0, 0)).2 (ys.getD (k + 1) (0, 0)).1 (ys.getD (k + 1) (0, 0)).2 b = true) : i + 1 ≤ k + 1 := by
  rcases Nat.lt_or_ge i (k + 1) with c | c
  · exact c
  · obtain rfl : i = k + 1 := by omega
    rw [Nat.add_sub_cancel, hw] at h; cases h
end Go.Proofs.Ytadifmimefmcnaa.Am.Sp
set_option linter.unusedVariables false
set_option linter.unusedSimpArgs false
namespace Go.Proofs.Ytadifmimefmcnaa.Am.Sp
def lptP (xs : List Int) (k : Nat) : Int × Int := (xs.getD (2 * k) 0 % 81 - 40, xs.getD (2 * k + 1) 0 % 81 - 40)
def lpt (xs : List Int) : Nat → Int × Int
  | 0 => lptP xs 0
  | k + 1 => if lptP xs (k + 1) = lpt xs k then ((lptP xs (k + 1)).1 + 1, (lptP xs (k + 1)).2) else lptP xs (k + 1)
def lnL (xs : List Int) (n : Nat) : List (Int × Int) := (List.range n).map (lpt xs)
theorem lnL_len (xs n) : (lnL xs n).length = n := by simp [lnL]
theorem lnL_get {xs : List Int} {n i : Nat} (h : i < n) : (lnL xs n).getD i (0, 0) = lpt xs i := by
  unfold lnL
  rw [List.getD_eq_getElem?_getD, List.getElem?_map, List.getElem?_range h]; rfl
theorem lnL_snoc {xs : List Int} {i : Nat} {p : Int × Int} (h : lpt xs i = p) : lnL xs i ++ [p] = lnL xs (i + 1) := by
  unfold lnL; rw [List.range_succ, List.map_append, ← h]; rfl
theorem lpt_eq {xs : List Int} {i : Nat} (h1 : 1 ≤ i) (h : ((xs.getD (2 * i) 0 % 81 - 40 == ((lnL xs i).getD (i - 1) (0, 0)).1) && ((xs.getD (2 * i + 1) 0 % 81 - 40 == ((lnL xs i).getD (i - 1) (0, 0)).2) && true)) = true) : lpt xs i = (xs.getD (2 * i) 0 % 81 - 40 + 1, xs.getD (2 * i + 1) 0 % 81 - 40) := by
  obtain ⟨k, rfl⟩ : ∃ k, i = k + 1 := ⟨i - 1, by omega⟩
  rw [lnL_get (by omega), Nat.add_sub_cancel] at h
  simp only [Bool.and_true, Bool.and_eq_true, beq_iff_eq] at h
  unfold lpt
  rw [if_pos (show lptP xs (k + 1) = lpt xs k from Prod.ext h.1 h.2)]; rfl
theorem lpt_ne {xs : List Int} {i : Nat} (h1 : 1 ≤ i) (h : ((xs.getD (2 * i) 0 % 81 - 40 == ((lnL xs i).getD (i - 1) (0, 0)).1) && ((xs.getD (2 * i + 1) 0 % 81 - 40 == ((lnL xs i).getD (i - 1) (0, 0)).2) && true)) = false) : lpt xs i = (xs.getD (2 * i) 0 % 81 - 40, xs.getD (2 * i + 1) 0 % 81 - 40) := by
  obtain ⟨k, rfl⟩ : ∃ k, i = k + 1 := ⟨i - 1, by omega⟩
  rw [lnL_get (by omega), Nat.add_sub_cancel] at h
  unfold lpt
  rw [if_neg (fun q => ?_)]
  · rfl
  · rw [← q] at h
    unfold lptP at h
    simp at h
end Go.Proofs.Ytadifmimefmcnaa.Am.Sp
set_option linter.unusedVariables false
set_option linter.unusedSimpArgs false
namespace Go.Proofs.Ytadifmimefmcnaa.Am.Sp
section
variable {ps : List (Int × Int)} {tol : Int} {f t i b : Nat}
end
inductive Que (ps : List (Int × Int)) (tol : Int) : List (Int × Int) → List Nat → Prop
  | nil : Que ps tol [] []
  | cons {f t : Nat} {J M : List Nat} {td : List (Int × Int)} (h : ThinP ps tol f t J) (ht : t < ps.length) (q : Que ps tol td M) : Que ps tol (((f : Int), (t : Int)) :: td) (J ++ M)
end Go.Proofs.Ytadifmimefmcnaa.Am.Sp

namespace Go.Proofs.Ytadifmimefmcnaa.Am
open Go Go.Proofs
set_option maxRecDepth 100000
set_option maxHeartbeats 4000000
set_option linter.unusedVariables false
set_option linter.unusedSimpArgs false
theorem pointz_ok (xs : List Int) (p : Nat) :
    AC Try.prog 100 2 ([.pointer (some ⟨0, 0, none⟩)]) [(0, ⟨[.slice (some ⟨1, (min (p) xs.length), none⟩) (xs.length - (p)) 0], 67, true, 1⟩), (1, ⟨(xs.map i64v), 3, false, 1⟩)] (.agg #[.int .i64 (xs.getD p 0 % 81 - 40), .int .i64 (xs.getD (p + 1) 0 % 81 - 40)]) [(0, ⟨[.slice (some ⟨1, (min (p + 2) xs.length), none⟩) (xs.length - (p + 2)) 0], 67, true, 1⟩)] := by
  have q1 := Sp.emod_bd (xs.getD p 0) (n := 81) (by decide); have q2 := Sp.emod_bd (xs.getD (p + 1) 0) (n := 81) (by decide)
  refine ac_in Try.func100 (fun w0 W pin => ?_)
  refine aw_p 3 (
    .a 1 2 <| .nil _ _) ?_
  refine aw_p 7 (
    .a 1 3 <|
    .p (does_callB (x := .func 127) (ars := #[.tmp 3, .const (.int .i64 81)]) (ats := #[65, 3]) (g := 127) (vs := [.pointer (some ⟨0, 0, none⟩), .int .i64 81]) (m := 2) (r := 0) (firsts := #[]) (caps := #[]) (args0 := [.pointer (some ⟨0, 0, none⟩), .int .i64 81]) (pre0 := [(0, ⟨[.slice (some ⟨1, (min (p) xs.length), none⟩) (xs.length - (p)) 0], 67, true, 1⟩), (1, ⟨(xs.map i64v), 3, false, 1⟩)]) (post0 := [(0, ⟨[.slice (some ⟨1, (min (p + 1) xs.length), none⟩) (xs.length - (p + 1)) 0], 67, true, 1⟩)]) (pre := [(0, ⟨[.slice (some ⟨1, (min (p) xs.length), none⟩) (xs.length - (p)) 0], 67, true, 1⟩), (1, ⟨(xs.map i64v), 3, false, 1⟩)]) (post := [(0, ⟨[.slice (some ⟨1, (min (p + 1) xs.length), none⟩) (xs.length - (p + 1)) 0], 67, true, 1⟩)]) (v0 := .int .i64 (xs.getD p 0 % 81)) (v := .int .i64 (xs.getD p 0 % 81)) [0, 1] (by kernel_rfl) (by kernel_rfl) (by kernel_rfl) (by kernel_rfl) (nextz xs p 81 (by decide) (by decide)) (.cons (.ptr _ _ (by decide)) (.cons (.flatB (by kernel_rfl)) .nil)) ⟨rfl, ⟨rfl, rfl, rfl, (.cons (.slice _ _ _ _ _ (by decide)) .nil)⟩, rfl, ⟨rfl, rfl, rfl, (.flats (flats_map (fun _ => rfl) _))⟩, trivial⟩ (by kernel_rfl) (by kernel_rfl) (by kernel_rfl) ⟨rfl, ⟨rfl, rfl, rfl, (.cons (.slice _ _ _ _ _ (by decide)) .nil)⟩, trivial⟩ (.flatB (by kernel_rfl))) <|
    .p (does_i ((xs.getD p 0 % 81) - 40) (wrap_i64 (by omega) (by omega)) .i64) <| .a 1 3 <|
    .p (does_callB (x := .func 127) (ars := #[.tmp 6, .const (.int .i64 81)]) (ats := #[65, 3]) (g := 127) (vs := [.pointer (some ⟨0, 0, none⟩), .int .i64 81]) (m := 2) (r := 0) (firsts := #[]) (caps := #[]) (args0 := [.pointer (some ⟨0, 0, none⟩), .int .i64 81]) (pre0 := [(0, ⟨[.slice (some ⟨1, (min (p + 1) xs.length), none⟩) (xs.length - (p + 1)) 0], 67, true, 1⟩), (1, ⟨(xs.map i64v), 3, false, 1⟩)]) (post0 := [(0, ⟨[.slice (some ⟨1, (min (p + 1 + 1) xs.length), none⟩) (xs.length - (p + 1 + 1)) 0], 67, true, 1⟩)]) (pre := [(0, ⟨[.slice (some ⟨1, (min (p + 1) xs.length), none⟩) (xs.length - (p + 1)) 0], 67, true, 1⟩), (1, ⟨(xs.map i64v), 3, false, 1⟩)]) (post := [(0, ⟨[.slice (some ⟨1, (min (p + 1 + 1) xs.length), none⟩) (xs.length - (p + 1 + 1)) 0], 67, true, 1⟩)]) (v0 := .int .i64 (xs.getD (p + 1) 0 % 81)) (v := .int .i64 (xs.getD (p + 1) 0 % 81)) [0, 1] (by kernel_rfl) (by kernel_rfl) (by kernel_rfl) (by kernel_rfl) (nextz xs (p + 1) 81 (by decide) (by decide)) (.cons (.ptr _ _ (by decide)) (.cons (.flatB (by kernel_rfl)) .nil)) ⟨rfl, ⟨rfl, rfl, rfl, (.cons (.slice _ _ _ _ _ (by decide)) .nil)⟩, rfl, ⟨rfl, rfl, rfl, (.flats (flats_map (fun _ => rfl) _))⟩, trivial⟩ (by kernel_rfl) (by kernel_rfl) (by kernel_rfl) ⟨rfl, ⟨rfl, rfl, rfl, (.cons (.slice _ _ _ _ _ (by decide)) .nil)⟩, trivial⟩ (.flatB (by kernel_rfl))) <|
    .p (does_i ((xs.getD (p + 1) 0 % 81) - 40) (wrap_i64 (by omega) (by omega)) .i64) <| .a 2 3 <| .nil _ _) ?_
  refine aw_rt ?_
  exact en_ret [.agg #[.int .i64 ((xs.getD p 0 % 81) - 40), .int .i64 ((xs.getD (p + 1) 0 % 81) - 40)]] (show (.agg #[.int .i64 ((xs.getD p 0 % 81) - 40), .int .i64 ((xs.getD (p + 1) 0 % 81) - 40)] : Value) = (.agg #[.int .i64 (xs.getD p 0 % 81 - 40), .int .i64 (xs.getD (p + 1) 0 % 81 - 40)]) from (congrArg (fun z : List Value => Value.agg z.toArray) (lcons (congrArg (Value.int .i64) (show ((xs.getD p 0 % 81) - 40) = (xs.getD p 0 % 81 - 40) from by rfl)) (lcons (congrArg (Value.int .i64) (show ((xs.getD (p + 1) 0 % 81) - 40) = (xs.getD (p + 1) 0 % 81 - 40) from by rfl)) rfl))))
theorem pointz0 (xs : List Int) : AC Try.prog 100 2 [.pointer (some ⟨0, 0, none⟩)] [(0, ⟨[.slice (some ⟨1, 0, none⟩) xs.length 0], 67, true, 1⟩), (1, ⟨(xs.map i64v), 3, false, 1⟩)] (.agg #[.int .i64 (xs.getD 0 0 % 81 - 40), .int .i64 (xs.getD 1 0 % 81 - 40)]) [(0, ⟨[.slice (some ⟨1, (min (2) xs.length), none⟩) (xs.length - (2)) 0], 67, true, 1⟩)] := by
  have h := pointz_ok xs 0
  rw [Nat.zero_min, Nat.sub_zero] at h
  exact h
end Go.Proofs.Ytadifmimefmcnaa.Am

namespace Go.Proofs.Ytadifmimefmcnaa.Am
open Go Go.Proofs
set_option maxRecDepth 100000
set_option maxHeartbeats 4000000
set_option linter.unusedVariables false
set_option linter.unusedSimpArgs false
theorem line_ok (xs : List Int) (n : Nat) (hn : 2 ≤ n ∧ n ≤ 8) :
    AC Try.prog 55 2 ([.pointer (some ⟨0, 0, none⟩), .int .i64 ((n : Nat) : Int)]) [(0, ⟨[.slice (some ⟨1, 0, none⟩) xs.length 0], 67, true, 1⟩), (1, ⟨(xs.map i64v), 3, false, 1⟩)] (.slice (some ⟨2, 0, none⟩) n 0) [(0, ⟨[.slice (some ⟨1, (min (2 * n) xs.length), none⟩) (xs.length - (2 * n)) 0], 67, true, 1⟩), (2, ⟨((Sp.lnL xs n).flatMap ptc), 29, true, 2⟩)] := by
  refine ac_in Try.func55 (fun w0 W pin => ?_)
  refine aw_p 3 (
    .a 1 3 <| .nil _ _) ?_
  refine aw_p 7 (
    .a 1 3 <|
    .p (does_callB (x := .func 100) (ars := #[.tmp 8]) (ats := #[65]) (g := 100) (vs := [.pointer (some ⟨0, 0, none⟩)]) (m := 2) (r := 0) (firsts := #[]) (caps := #[]) (args0 := [.pointer (some ⟨0, 0, none⟩)]) (pre0 := [(0, ⟨[.slice (some ⟨1, 0, none⟩) xs.length 0], 67, true, 1⟩), (1, ⟨(xs.map i64v), 3, false, 1⟩)]) (post0 := [(0, ⟨[.slice (some ⟨1, (min (2) xs.length), none⟩) (xs.length - (2)) 0], 67, true, 1⟩)]) (pre := [(0, ⟨[.slice (some ⟨1, 0, none⟩) xs.length 0], 67, true, 1⟩), (1, ⟨(xs.map i64v), 3, false, 1⟩)]) (post := [(0, ⟨[.slice (some ⟨1, (min (2) xs.length), none⟩) (xs.length - (2)) 0], 67, true, 1⟩)]) (v0 := .agg #[.int .i64 (xs.getD 0 0 % 81 - 40), .int .i64 (xs.getD 1 0 % 81 - 40)]) (v := .agg #[.int .i64 (xs.getD 0 0 % 81 - 40), .int .i64 (xs.getD 1 0 % 81 - 40)]) [0, 1] (by kernel_rfl) (by kernel_rfl) (by kernel_rfl) (by kernel_rfl) (pointz0 xs) (.cons (.ptr _ _ (by decide)) .nil) ⟨rfl, ⟨rfl, rfl, rfl, (.cons (.slice _ _ _ _ _ (by decide)) .nil)⟩, rfl, ⟨rfl, rfl, rfl, (.flats (flats_map (fun _ => rfl) _))⟩, trivial⟩ (by kernel_rfl) (by kernel_rfl) (by kernel_rfl) ⟨rfl, ⟨rfl, rfl, rfl, (.cons (.slice _ _ _ _ _ (by decide)) .nil)⟩, trivial⟩ (.flatB (by kernel_rfl))) <|
    .a 2 3 <| .nil _ _) ?_
  refine aw_sq 14 15 ?_
  refine aw_bl 0 29 ?_
  refine aw_lp 59 ?_
  refine al_w [(0, .pointer (some ⟨0, 0, none⟩)), (1, .int .i64 ((n : Nat) : Int)), (5, .slice (some ⟨3, 0, none⟩) 1 0)] [(0, ⟨[.slice (some ⟨1, (min (2 * 1) xs.length), none⟩) (xs.length - (2 * 1)) 0], 67, true, 1⟩), (1, ⟨(xs.map i64v), 3, false, 1⟩), (3, ⟨((Sp.lnL xs 1).flatMap ptc), 29, true, 2⟩)] ?_ (hc := (by simp [closedB, valsB, valB, List.all_eq_true, List.mem_flatMap, List.mem_range, List.mem_map, i64v, ptc, flat1]; try (intros; simp [valsB, valB, flat1]); try decide))
  refine al_ind (fun i : Nat => (fun (i : Nat) => mkSt 2 [(0, .pointer (some ⟨0, 0, none⟩)), (1, .int .i64 ((n : Nat) : Int)), (5, .slice (some ⟨3, 0, none⟩) i 0)] [(0, ⟨[.slice (some ⟨1, (min (2 * i) xs.length), none⟩) (xs.length - (2 * i)) 0], 67, true, 1⟩), (1, ⟨(xs.map i64v), 3, false, 1⟩), (3, ⟨((Sp.lnL xs i).flatMap ptc), 29, true, 2⟩)]) i) (fun i : Nat => (fun (i : Nat) => (1 ≤ i ∧ i ≤ n)) i) (fun i : Nat => (fun (i : Nat) => n - i) i) (fun i hi1 ih1 => ?_) 1 (show (1 ≤ 1 ∧ 1 ≤ n) from by omega)
  obtain ⟨i, hv1⟩ : ∃ z, z = i := ⟨i, rfl⟩; subst hv1
  have hi1' : (1 ≤ i ∧ i ≤ n) := hi1
  have hi : 1 ≤ i ∧ i ≤ n := hi1'
  show AL _ _ _ (mkSt 2 [(0, .pointer (some ⟨0, 0, none⟩)), (1, .int .i64 ((n : Nat) : Int)), (5, .slice (some ⟨3, 0, none⟩) i 0)] [(0, ⟨[.slice (some ⟨1, (min (2 * i) xs.length), none⟩) (xs.length - (2 * i)) 0], 67, true, 1⟩), (1, ⟨(xs.map i64v), 3, false, 1⟩), (3, ⟨((Sp.lnL xs i).flatMap ptc), 29, true, 2⟩)]) _
  refine al_round ?_
  refine aw_sq 118 119 ?_
  refine aw_p 237 (
    .a 4 4 <| .nil _ _) ?_
  refine aw_cd 474 475 (decide (((i : Nat) : Int) < ((n : Nat) : Int))) (fun h1 => ?_) (fun h1 => ?_)
  · have h1p : ((((i : Nat) : Int) < ((n : Nat) : Int))) := by first | (simpa using h1) | (have h1q := h1; simp at h1q; omega) | (have h1q := bx1 h1; simp at h1q; omega)
    have hil : i < n := (by omega); have b1 := Sp.emod_bd (xs.getD (2 * i) 0) (n := 81) (by decide)
    refine aw_sk ?_
    refine then_normal ?_
    refine aw_bl 1 239 ?_
    refine aw_d 479 (
      .a 1 4 <|
      .p (does_callB (x := .func 100) (ars := #[.tmp 15]) (ats := #[65]) (g := 100) (vs := [.pointer (some ⟨0, 0, none⟩)]) (m := 2) (r := 0) (firsts := #[]) (caps := #[]) (args0 := [.pointer (some ⟨0, 0, none⟩)]) (pre0 := [(0, ⟨[.slice (some ⟨1, (min (2 * i) xs.length), none⟩) (xs.length - (2 * i)) 0], 67, true, 1⟩), (1, ⟨(xs.map i64v), 3, false, 1⟩)]) (post0 := [(0, ⟨[.slice (some ⟨1, (min (2 * i + 2) xs.length), none⟩) (xs.length - (2 * i + 2)) 0], 67, true, 1⟩)]) (pre := [(0, ⟨[.slice (some ⟨1, (min (2 * i) xs.length), none⟩) (xs.length - (2 * i)) 0], 67, true, 1⟩), (1, ⟨(xs.map i64v), 3, false, 1⟩)]) (post := [(0, ⟨[.slice (some ⟨1, (min (2 * i + 2) xs.length), none⟩) (xs.length - (2 * i + 2)) 0], 67, true, 1⟩)]) (v0 := .agg #[.int .i64 (xs.getD (2 * i) 0 % 81 - 40), .int .i64 (xs.getD (2 * i + 1) 0 % 81 - 40)]) (v := .agg #[.int .i64 (xs.getD (2 * i) 0 % 81 - 40), .int .i64 (xs.getD (2 * i + 1) 0 % 81 - 40)]) [0, 1] (by kernel_rfl) (by kernel_rfl) (by kernel_rfl) (by kernel_rfl) (pointz_ok xs (2 * i)) (.cons (.ptr _ _ (by decide)) .nil) ⟨rfl, ⟨rfl, rfl, rfl, (.cons (.slice _ _ _ _ _ (by decide)) .nil)⟩, rfl, ⟨rfl, rfl, rfl, (.flats (flats_map (fun _ => rfl) _))⟩, trivial⟩ (by kernel_rfl) (by kernel_rfl) (by kernel_rfl) ⟨rfl, ⟨rfl, rfl, rfl, (.cons (.slice _ _ _ _ _ (by decide)) .nil)⟩, trivial⟩ (.flatB (by kernel_rfl))) <|
      .a 3 4 <| .p (does_i ((i - 1 : Nat) : Int) ((show (IntKind.wrap .i64 (((i : Nat) : Int) - 1)) = ((i - 1 : Nat) : Int) from ((wrap_i64 (by omega) (by omega)).trans (by omega)))) .i64) <|
      .p (does_indexSlice (t := 24) (x := .tmp 17) (y := .tmp 20) (k := 3) (off := 0) (n := i) (c := 0) (z := 2) (kd := .i64) (j := ((i - 1 : Nat) : Int)) (by kernel_rfl) (by kernel_rfl) (by kernel_rfl) (by kernel_rfl) (by kernel_rfl) (by omega) (by omega)) <|
      .p (does_load (t := 29) (x := .tmp 21) (k := 3) (off := (0 + (((i - 1 : Nat) : Int)).toNat * 2)) (b := ⟨((Sp.lnL xs i).flatMap ptc), 29, true, 2⟩) (v := .agg #[.int .i64 (((Sp.lnL xs i).getD (i - 1) (0, 0)).1), .int .i64 (((Sp.lnL xs i).getD (i - 1) (0, 0)).2)]) (by kernel_rfl) (by kernel_rfl) (by kernel_rfl) (ldV_pair (j := (i - 1)) (by kernel_rfl) (by kernel_rfl) (by omega) (by first | omega | (simp only [Sp.lnL_len]; omega)))) <|
      .a 4 4 <| .nil _ _) ?_
    refine aw_sq 958 959 ?_
    refine aw_p 1917 (
      .a 2 6 <| .p (does_e (((xs.getD (2 * i) 0 % 81 - 40) == (((Sp.lnL xs i).getD (i - 1) (0, 0)).1)) && (((xs.getD (2 * i + 1) 0 % 81 - 40) == (((Sp.lnL xs i).getD (i - 1) (0, 0)).2)) && true)) (rfl)) <| .nil _ _) ?_
    refine aw_cd 3834 3835 (((xs.getD (2 * i) 0 % 81 - 40) == (((Sp.lnL xs i).getD (i - 1) (0, 0)).1)) && (((xs.getD (2 * i + 1) 0 % 81 - 40) == (((Sp.lnL xs i).getD (i - 1) (0, 0)).2)) && true)) (fun h2 => ?_) (fun h2 => ?_)
    · have h2p : (((xs.getD (2 * i) 0 % 81 - 40) = (((Sp.lnL xs i).getD (i - 1) (0, 0)).1) ∧ (xs.getD (2 * i + 1) 0 % 81 - 40) = (((Sp.lnL xs i).getD (i - 1) (0, 0)).2))) := by first | (simpa using h2) | (have h2q := h2; simp at h2q; omega) | (have h2q := bx1 h2; simp at h2q; omega)
      refine aw_p1 (
        .a 2 6 <| .p (does_i ((xs.getD (2 * i) 0 % 81 - 40) + 1) (wrap_i64 (by omega) (by omega)) .i64) <| .a 2 6 <| .nil _ _) ?_
      refine then_normal ?_
      refine aw_p1 (
        .a 3 6 <|
        .p (does_apy 7 29 2 16 3 i 6 1 ⟨((Sp.lnL xs i).flatMap ptc), 29, true, 2⟩ ⟨[.int .i64 ((xs.getD (2 * i) 0 % 81 - 40) + 1), .int .i64 (xs.getD (2 * i + 1) 0 % 81 - 40)], 29, true, 2⟩ ((Sp.lnL xs (i + 1)).flatMap ptc) (by kernel_rfl) (by kernel_rfl) (by kernel_rfl) (by kernel_rfl) (by kernel_rfl) (by show (((Sp.lnL xs i).flatMap ptc)).length = _; rw [pairs_length, Sp.lnL_len]; omega) (by omega) (by omega) (by rw [← Sp.lnL_snoc (Sp.lpt_eq hi.1 h2)]; simp [ptc, Sp.lnL_len, pairs_length])) <|
        .a 1 8 <| .nil _ _) ?_
      refine block_normal ?_
      refine then_normal ?_
      refine al_r [(3, 7)] [(0, .pointer (some ⟨0, 0, none⟩)), (1, .int .i64 ((n : Nat) : Int)), (5, .slice (some ⟨7, 0, none⟩) (i + 1) 0)] [(0, ⟨[.slice (some ⟨1, (min (2 * (i + 1)) xs.length), none⟩) (xs.length - (2 * (i + 1))) 0], 67, true, 1⟩), (1, ⟨(xs.map i64v), 3, false, 1⟩), (7, ⟨((Sp.lnL xs (i + 1)).flatMap ptc), 29, true, 2⟩)] [(0, .pointer (some ⟨0, 0, none⟩)), (1, .int .i64 ((n : Nat) : Int)), (5, .slice (some ⟨3, 0, none⟩) (i + 1) 0)] [(0, ⟨[.slice (some ⟨1, (min (2 * (i + 1)) xs.length), none⟩) (xs.length - (2 * (i + 1))) 0], 67, true, 1⟩), (1, ⟨(xs.map i64v), 3, false, 1⟩), (3, ⟨((Sp.lnL xs (i + 1)).flatMap ptc), 29, true, 2⟩)] ?_ ⟨rfl, (.ptr _ _ rfl), rfl, (.flatB (by kernel_rfl)), rfl, (.slice _ _ _ _ _ rfl), trivial⟩ ⟨rfl, ⟨rfl, rfl, rfl, (.cons (.slice _ _ _ _ _ rfl) .nil)⟩, rfl, ⟨rfl, rfl, rfl, (.flats (flats_map (fun _ => rfl) _))⟩, rfl, ⟨rfl, rfl, rfl, (.flats (flats_pair _))⟩, trivial⟩
      exact ih1 (i + 1) (show (1 ≤ (i + 1) ∧ (i + 1) ≤ n) from by omega) (show n - (i + 1) < n - i from by omega)
    · have h2p : ¬ (((xs.getD (2 * i) 0 % 81 - 40) = (((Sp.lnL xs i).getD (i - 1) (0, 0)).1) ∧ (xs.getD (2 * i + 1) 0 % 81 - 40) = (((Sp.lnL xs i).getD (i - 1) (0, 0)).2))) := by first | (simpa using h2) | (have h2q := h2; simp at h2q; omega) | (have h2q := bx2 h2; simp at h2q; omega)
      refine aw_sk ?_
      refine then_normal ?_
      refine aw_p1 (
        .a 3 6 <|
        .p (does_apy 7 29 2 16 3 i 6 1 ⟨((Sp.lnL xs i).flatMap ptc), 29, true, 2⟩ ⟨[.int .i64 (xs.getD (2 * i) 0 % 81 - 40), .int .i64 (xs.getD (2 * i + 1) 0 % 81 - 40)], 29, true, 2⟩ ((Sp.lnL xs (i + 1)).flatMap ptc) (by kernel_rfl) (by kernel_rfl) (by kernel_rfl) (by kernel_rfl) (by kernel_rfl) (by show (((Sp.lnL xs i).flatMap ptc)).length = _; rw [pairs_length, Sp.lnL_len]; omega) (by omega) (by omega) (by rw [← Sp.lnL_snoc (Sp.lpt_ne hi.1 h2)]; simp [ptc, Sp.lnL_len, pairs_length])) <|
        .a 1 8 <| .nil _ _) ?_
      refine block_normal ?_
      refine then_normal ?_
      refine al_r [(3, 7)] [(0, .pointer (some ⟨0, 0, none⟩)), (1, .int .i64 ((n : Nat) : Int)), (5, .slice (some ⟨7, 0, none⟩) (i + 1) 0)] [(0, ⟨[.slice (some ⟨1, (min (2 * (i + 1)) xs.length), none⟩) (xs.length - (2 * (i + 1))) 0], 67, true, 1⟩), (1, ⟨(xs.map i64v), 3, false, 1⟩), (7, ⟨((Sp.lnL xs (i + 1)).flatMap ptc), 29, true, 2⟩)] [(0, .pointer (some ⟨0, 0, none⟩)), (1, .int .i64 ((n : Nat) : Int)), (5, .slice (some ⟨3, 0, none⟩) (i + 1) 0)] [(0, ⟨[.slice (some ⟨1, (min (2 * (i + 1)) xs.length), none⟩) (xs.length - (2 * (i + 1))) 0], 67, true, 1⟩), (1, ⟨(xs.map i64v), 3, false, 1⟩), (3, ⟨((Sp.lnL xs (i + 1)).flatMap ptc), 29, true, 2⟩)] ?_ ⟨rfl, (.ptr _ _ rfl), rfl, (.flatB (by kernel_rfl)), rfl, (.slice _ _ _ _ _ rfl), trivial⟩ ⟨rfl, ⟨rfl, rfl, rfl, (.cons (.slice _ _ _ _ _ rfl) .nil)⟩, rfl, ⟨rfl, rfl, rfl, (.flats (flats_map (fun _ => rfl) _))⟩, rfl, ⟨rfl, rfl, rfl, (.flats (flats_pair _))⟩, trivial⟩
      exact ih1 (i + 1) (show (1 ≤ (i + 1) ∧ (i + 1) ≤ n) from by omega) (show n - (i + 1) < n - i from by omega)
  · have h1p : ¬ ((((i : Nat) : Int) < ((n : Nat) : Int))) := by first | (simpa using h1) | (have h1q := h1; simp at h1q; omega) | (have h1q := bx2 h1; simp at h1q; omega)
    have hin : i = n := by omega
    refine aw_ex 0 ?_
    refine then_exit ?_
    refine then_exit ?_
    refine block_exit ?_
    refine then_normal ?_
    refine aw_w [(5, .slice (some ⟨3, 0, none⟩) n 0)] [(0, ⟨[.slice (some ⟨1, (min (2 * n) xs.length), none⟩) (xs.length - (2 * n)) 0], 67, true, 1⟩), (1, ⟨(xs.map i64v), 3, false, 1⟩), (3, ⟨((Sp.lnL xs n).flatMap ptc), 29, true, 2⟩)] ?_ (by subst hin; kernel_rfl) (by subst hin; kernel_rfl) (hc := (by simp [closedB, valsB, valB, List.all_eq_true, List.mem_flatMap, List.mem_range, List.mem_map, i64v, ptc, flat1]; try (intros; simp [valsB, valB, flat1]); try decide))
    refine aw_p 31 (
      .a 2 4 <| .nil _ _) ?_
    refine aw_r [(2, 3)] [(4, .slice (some ⟨3, 0, none⟩) n 0)] [(0, ⟨[.slice (some ⟨1, (min (2 * n) xs.length), none⟩) (xs.length - (2 * n)) 0], 67, true, 1⟩), (1, ⟨(xs.map i64v), 3, false, 1⟩), (3, ⟨((Sp.lnL xs n).flatMap ptc), 29, true, 2⟩)] [(4, .slice (some ⟨2, 0, none⟩) n 0)] [(0, ⟨[.slice (some ⟨1, (min (2 * n) xs.length), none⟩) (xs.length - (2 * n)) 0], 67, true, 1⟩), (1, ⟨(xs.map i64v), 3, false, 1⟩), (2, ⟨((Sp.lnL xs n).flatMap ptc), 29, true, 2⟩)] ?_ ⟨rfl, (.slice _ _ _ _ _ rfl), trivial⟩ ⟨rfl, ⟨rfl, rfl, rfl, (.cons (.slice _ _ _ _ _ rfl) .nil)⟩, rfl, ⟨rfl, rfl, rfl, (.flats (flats_map (fun _ => rfl) _))⟩, rfl, ⟨rfl, rfl, rfl, (.flats (flats_pair _))⟩, trivial⟩
    refine aw_rt ?_
    exact en_ret [.slice (some ⟨2, 0, none⟩) n 0] (by kernel_rfl)
theorem mline_ok (xs : List Int) (n : Nat) (hx : xs.length % 7 + 2 = n) (hn : 2 ≤ n ∧ n ≤ 8) :
    AC Try.prog 14 1 ([.slice (some ⟨0, 0, none⟩) xs.length 0]) [(0, ⟨(xs.map i64v), 3, false, 1⟩)] (.slice (some ⟨1, 0, none⟩) n 0) [(1, ⟨((Sp.lnL xs n).flatMap ptc), 29, true, 2⟩)] := by
  refine ac_in Try.func14 (fun w0 W pin => ?_)
  refine aw_p 3 (
    .a 1 1 <| .nil _ _) ?_
  refine aw_p 7 (
    .a 5 1 <| .p (does_c (below_ok ((xs.length : Nat) : Int) 7 (by decide) (by decide))) <| .p (does_i ((n : Nat) : Int) ((show (IntKind.wrap .i64 (2 + (((xs.length : Nat) : Int) % 7))) = ((n : Nat) : Int) from ((wrap_i64 (by omega) (by omega)).trans (by omega)))) .i64) <|
    .p (does_callB (x := .func 55) (ars := #[.tmp 5, .tmp 9]) (ats := #[65, 3]) (g := 55) (vs := [.pointer (some ⟨1, 0, none⟩), .int .i64 ((n : Nat) : Int)]) (m := 2) (r := 1) (firsts := #[]) (caps := #[]) (args0 := [.pointer (some ⟨0, 0, none⟩), .int .i64 ((n : Nat) : Int)]) (pre0 := [(0, ⟨[.slice (some ⟨1, 0, none⟩) xs.length 0], 67, true, 1⟩), (1, ⟨(xs.map i64v), 3, false, 1⟩)]) (post0 := [(0, ⟨[.slice (some ⟨1, (min (2 * n) xs.length), none⟩) (xs.length - (2 * n)) 0], 67, true, 1⟩), (2, ⟨((Sp.lnL xs n).flatMap ptc), 29, true, 2⟩)]) (pre := [(1, ⟨[.slice (some ⟨0, 0, none⟩) xs.length 0], 67, true, 1⟩), (0, ⟨(xs.map i64v), 3, false, 1⟩)]) (post := [(1, ⟨[.slice (some ⟨0, (min (2 * n) xs.length), none⟩) (xs.length - (2 * n)) 0], 67, true, 1⟩), (2, ⟨((Sp.lnL xs n).flatMap ptc), 29, true, 2⟩)]) (v0 := .slice (some ⟨2, 0, none⟩) n 0) (v := .slice (some ⟨2, 0, none⟩) n 0) [1, 0, 2] (by kernel_rfl) (by kernel_rfl) (by kernel_rfl) (by kernel_rfl) (line_ok xs n hn) (.cons (.ptr _ _ (by decide)) (.cons (.flatB (by kernel_rfl)) .nil)) ⟨rfl, ⟨rfl, rfl, rfl, (.cons (.slice _ _ _ _ _ (by decide)) .nil)⟩, rfl, ⟨rfl, rfl, rfl, (.flats (flats_map (fun _ => rfl) _))⟩, trivial⟩ (by kernel_rfl) (by kernel_rfl) (by kernel_rfl) ⟨rfl, ⟨rfl, rfl, rfl, (.cons (.slice _ _ _ _ _ (by decide)) .nil)⟩, rfl, ⟨rfl, rfl, rfl, (.flats (flats_pair _))⟩, trivial⟩ (.slice _ _ _ _ _ (by decide))) <|
    .a 1 3 <| .nil _ _) ?_
  refine aw_r [(1, 2)] [(2, .slice (some ⟨2, 0, none⟩) n 0)] [(0, ⟨(xs.map i64v), 3, false, 1⟩), (2, ⟨((Sp.lnL xs n).flatMap ptc), 29, true, 2⟩)] [(2, .slice (some ⟨1, 0, none⟩) n 0)] [(0, ⟨(xs.map i64v), 3, false, 1⟩), (1, ⟨((Sp.lnL xs n).flatMap ptc), 29, true, 2⟩)] ?_ ⟨rfl, (.slice _ _ _ _ _ rfl), trivial⟩ ⟨rfl, ⟨rfl, rfl, rfl, (.flats (flats_map (fun _ => rfl) _))⟩, rfl, ⟨rfl, rfl, rfl, (.flats (flats_pair _))⟩, trivial⟩
  refine aw_rt ?_
  exact en_ret [.slice (some ⟨1, 0, none⟩) n 0] (by kernel_rfl)
end Go.Proofs.Ytadifmimefmcnaa.Am

namespace Go.Proofs.Ytadifmimefmcnaa.Am
open Go Go.Proofs
set_option maxRecDepth 100000
set_option maxHeartbeats 4000000
set_option linter.unusedVariables false
set_option linter.unusedSimpArgs false
theorem mlineat_ok (xs : List Int) (p n : Nat) (r : List (Int × Int)) (hp : p + n ≤ xs.length) (h1 : 1 ≤ n) (hr : Sp.lnL ((xs.drop p).take n) (n % 7 + 2) = r) : AC Try.prog 14 1 [.slice (some ⟨0, p, none⟩) n 0] [(0, ⟨(xs.map i64v), 3, false, 1⟩)] (.slice (some ⟨1, 0, none⟩) r.length 0) [(1, ⟨(r.flatMap ptc), 29, true, 2⟩)] := by
  have hl : ((xs.drop p).take n).length = n := (by rw [List.length_take, List.length_drop]; omega)
  have h := mline_ok ((xs.drop p).take n) (n % 7 + 2) (by rw [hl]) (by omega)
  rw [hl] at h
  subst hr
  rw [Sp.lnL_len]
  refine AC.shift (by rw [List.length_map]; exact hp) h1 (flats_map (fun _ => rfl) _) (by rw [← List.map_drop, ← List.map_take]; exact h) (.slice _ _ _ _ (Nat.le_refl _)) (fun k b hk => ?_)
  simp only [List.mem_cons, List.not_mem_nil, or_false, Prod.mk.injEq] at hk
  obtain ⟨rfl, rfl⟩ := hk
  exact ⟨Nat.le_refl _, fun u hu => only_flat (List.all_eq_true.1 (flats_pair _) u hu)⟩
end Go.Proofs.Ytadifmimefmcnaa.Am

set_option linter.unusedVariables false
set_option linter.unusedSimpArgs false
namespace Go.Proofs.Ytadifmimefmcnaa.Am.Sp
theorem prp_swap (ax ay bx b_y cx cy dx dy : Int) : prp cx cy dx dy ax ay bx b_y = prp ax ay bx b_y cx cy dx dy := by
  rw [Bool.eq_iff_iff, prp_iff, prp_iff]; constructor <;> rintro ⟨h1, h2⟩ <;> exact ⟨h2, h1⟩
theorem prp_flip (ax ay bx b_y cx cy dx dy : Int) : prp bx b_y ax ay cx cy dx dy = prp ax ay bx b_y cx cy dx dy := by
  rw [Bool.eq_iff_iff, prp_iff, prp_iff, crs_anti bx b_y ax ay cx cy, crs_anti bx b_y ax ay dx dy, Int.zero_sub, Int.zero_sub, Int.neg_mul_neg, Int.mul_comm (crs cx cy dx dy bx b_y)]
theorem shr_swap (ax ay bx b_y cx cy dx dy : Int) (z : Int × Int) : z ∈ shr cx cy dx dy ax ay bx b_y ↔ z ∈ shr ax ay bx b_y cx cy dx dy := by
  rw [mem_shr, mem_shr]; constructor <;> (rintro (h | h | h | h) <;> simp [h])
theorem shr_flip (ax ay bx b_y cx cy dx dy : Int) (z : Int × Int) : z ∈ shr bx b_y ax ay cx cy dx dy ↔ z ∈ shr ax ay bx b_y cx cy dx dy := by
  rw [mem_shr, mem_shr, onb_comm bx b_y ax ay cx cy, onb_comm bx b_y ax ay dx dy]; constructor <;> (rintro (h | h | h | h) <;> simp [h])
theorem len_same {l m : List (Int × Int)} (h1 : l.Nodup) (h2 : m.Nodup) (h : ∀ z, z ∈ l ↔ z ∈ m) : l.length = m.length :=
  ((List.perm_ext_iff_of_nodup h1 h2).2 h).length_eq
theorem meetN_swap (ax ay bx b_y cx cy dx dy : Int) : meetN cx cy dx dy ax ay bx b_y = meetN ax ay bx b_y cx cy dx dy := by
  unfold meetN; rw [prp_swap, len_same (nodup_shr ..) (nodup_shr ..) (shr_swap ax ay bx b_y cx cy dx dy)]
theorem meetN_flip (ax ay bx b_y cx cy dx dy : Int) : meetN bx b_y ax ay cx cy dx dy = meetN ax ay bx b_y cx cy dx dy := by
  unfold meetN; rw [prp_flip, len_same (nodup_shr ..) (nodup_shr ..) (shr_flip ax ay bx b_y cx cy dx dy)]
end Go.Proofs.Ytadifmimefmcnaa.Am.Sp
set_option linter.unusedVariables false
set_option linter.unusedSimpArgs false
namespace Go.Proofs.Ytadifmimefmcnaa.Am.Sp
end Go.Proofs.Ytadifmimefmcnaa.Am.Sp
set_option linter.unusedVariables false
set_option linter.unusedSimpArgs false
namespace Go.Proofs.Ytadifmimefmcnaa.Am.Sp
/-- the boxes of a segment and of a box have a point in common -/
def meets (lx ly hx hy wx wy zx zy : Int) : Prop := ((lx ≤ wx ∨ lx ≤ zx) ∧ (wx ≤ hx ∨ zx ≤ hx)) ∧ ((ly ≤ wy ∨ ly ≤ zy) ∧ (wy ≤ hy ∨ zy ≤ hy))
theorem sides {a b : Int} (h : a * b ≤ 0) : (a ≥ 0 ∨ b ≥ 0) ∧ (a ≤ 0 ∨ b ≤ 0) := by
  constructor
  · rcases Int.lt_or_le a 0 with k | k
    · rcases Int.lt_or_le b 0 with q | q
      · have := Int.mul_pos_of_neg_of_neg k q; omega
      · exact .inr q
    · exact .inl k
  · rcases Int.lt_or_le 0 a with k | k
    · rcases Int.lt_or_le 0 b with q | q
      · have := Int.mul_pos k q; omega
      · exact .inr q
    · exact .inl k
end Go.Proofs.Ytadifmimefmcnaa.Am.Sp
