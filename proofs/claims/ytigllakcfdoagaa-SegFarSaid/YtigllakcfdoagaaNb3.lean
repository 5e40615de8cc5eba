import Derived.Test.YtigllakcfdoagaaNb2
import Derived.Test.YtigllakcfdoagaaAm10
namespace Go.Proofs.Ytigllakcfdoagaa.Am.Sp
/-! Words of 64 bits -/
theorem bvn {a : Int} (h0 : 0 ≤ a) (h1 : a < 18446744073709551616) : (BitVec.ofInt 64 a).toNat = a.toNat := by
  rw [BitVec.toNat_ofInt]; omega
def band (x y : Int) : Int := ((BitVec.ofInt 64 x &&& BitVec.ofInt 64 y).toNat : Int)
def bor (x y : Int) : Int := ((BitVec.ofInt 64 x ||| BitVec.ofInt 64 y).toNat : Int)
def bxor (x y : Int) : Int := ((BitVec.ofInt 64 x ^^^ BitVec.ofInt 64 y).toNat : Int)
def bandn (x y : Int) : Int := ((BitVec.ofInt 64 x &&& ~~~ BitVec.ofInt 64 y).toNat : Int)
theorem bv_lt (v : BitVec 64) : 0 ≤ (v.toNat : Int) ∧ (v.toNat : Int) ≤ 18446744073709551615 := ⟨by omega, by have := v.isLt; omega⟩
theorem wrapbv (v : BitVec 64) : IntKind.wrap .u64 (v.toNat : Int) = (v.toNat : Int) := wrap_u64 (bv_lt v).1 (bv_lt v).2
/-- the first bit -/
theorem top_or (a b : Nat) (ha : a < 2 ^ 64) (hb : b < 2 ^ 64) : (a ||| b) / 2 ^ 63 = if a / 2 ^ 63 = 1 ∨ b / 2 ^ 63 = 1 then 1 else 0 := by
  rw [← Nat.shiftRight_eq_div_pow, Nat.shiftRight_or_distrib, Nat.shiftRight_eq_div_pow, Nat.shiftRight_eq_div_pow]
  have h1 : a / 2 ^ 63 = 0 ∨ a / 2 ^ 63 = 1 := by omega
  have h2 : b / 2 ^ 63 = 0 ∨ b / 2 ^ 63 = 1 := by omega
  rcases h1 with h1 | h1 <;> rcases h2 with h2 | h2 <;> rw [h1, h2] <;> decide
theorem top_and (a b : Nat) (ha : a < 2 ^ 64) (hb : b < 2 ^ 64) : (a &&& b) / 2 ^ 63 = if a / 2 ^ 63 = 1 ∧ b / 2 ^ 63 = 1 then 1 else 0 := by
  rw [← Nat.shiftRight_eq_div_pow, Nat.shiftRight_and_distrib, Nat.shiftRight_eq_div_pow, Nat.shiftRight_eq_div_pow]
  have h1 : a / 2 ^ 63 = 0 ∨ a / 2 ^ 63 = 1 := by omega
  have h2 : b / 2 ^ 63 = 0 ∨ b / 2 ^ 63 = 1 := by omega
  rcases h1 with h1 | h1 <;> rcases h2 with h2 | h2 <;> rw [h1, h2] <;> decide
theorem top_xor (a b : Nat) (ha : a < 2 ^ 64) (hb : b < 2 ^ 64) : (a ^^^ b) / 2 ^ 63 = if a / 2 ^ 63 = b / 2 ^ 63 then 0 else 1 := by
  rw [← Nat.shiftRight_eq_div_pow, Nat.shiftRight_xor_distrib, Nat.shiftRight_eq_div_pow, Nat.shiftRight_eq_div_pow]
  have h1 : a / 2 ^ 63 = 0 ∨ a / 2 ^ 63 = 1 := by omega
  have h2 : b / 2 ^ 63 = 0 ∨ b / 2 ^ 63 = 1 := by omega
  rcases h1 with h1 | h1 <;> rcases h2 with h2 | h2 <;> rw [h1, h2] <;> decide
theorem fdiv_pos {a b : Int} (hb : 0 ≤ b) : Int.fdiv a b = a / b := Int.fdiv_eq_ediv_of_nonneg _ hb
/-- math/bits.Add64's carry -/
theorem add_carry {x y c s : Int} (hx : 0 ≤ x) (hx' : x ≤ 18446744073709551615) (hy : 0 ≤ y) (hy' : y ≤ 18446744073709551615) (hc : 0 ≤ c) (hc' : c ≤ 1)
    (hs : s = (x + y + c) % 18446744073709551616) : bor (band x y) (bandn (bor x y) s) / 9223372036854775808 = (x + y + c) / 18446744073709551616 := by
  obtain ⟨a, rfl⟩ : ∃ a : Nat, x = a := ⟨x.toNat, by omega⟩
  obtain ⟨b, rfl⟩ : ∃ b : Nat, y = b := ⟨y.toNat, by omega⟩
  obtain ⟨k, rfl⟩ : ∃ k : Nat, c = k := ⟨c.toNat, by omega⟩
  obtain ⟨t, rfl⟩ : ∃ t : Nat, s = t := ⟨s.toNat, by omega⟩
  have ha : a < 2 ^ 64 := by omega
  have hb : b < 2 ^ 64 := by omega
  have ht : t < 2 ^ 64 := by omega
  unfold bor band bandn
  have e1 : ∀ v : BitVec 64, BitVec.ofInt 64 (v.toNat : Int) = v := fun v => by
    apply BitVec.eq_of_toNat_eq; rw [bvn (by omega) (by have := v.isLt; omega)]; omega
  have e2 : ∀ n : Nat, n < 2 ^ 64 → (BitVec.ofInt 64 (n : Int)).toNat = n := fun n hn => by rw [bvn (by omega) (by omega)]; omega
  rw [e1, e1, e1, BitVec.toNat_or, BitVec.toNat_and, BitVec.toNat_and, BitVec.toNat_or, BitVec.toNat_not, e2 a ha, e2 b hb, e2 t ht]
  have q : ∀ n : Nat, ((n : Int) / 9223372036854775808) = ((n / 2 ^ 63 : Nat) : Int) := fun n => by omega
  rw [q, top_or _ _ (Nat.and_lt_two_pow _ hb) (Nat.and_lt_two_pow _ (by omega)), top_and _ _ ha hb, top_and _ _ (Nat.or_lt_two_pow ha hb) (by omega), top_or _ _ ha hb]
  have h1 : a / 2 ^ 63 = 0 ∨ a / 2 ^ 63 = 1 := by omega
  have h2 : b / 2 ^ 63 = 0 ∨ b / 2 ^ 63 = 1 := by omega
  rcases h1 with h1 | h1 <;> rcases h2 with h2 | h2 <;> simp [h1, h2] <;> (try split) <;> omega
/-- math/bits.Sub64's borrow -/
theorem sub_borrow {x y c s : Int} (hx : 0 ≤ x) (hx' : x ≤ 18446744073709551615) (hy : 0 ≤ y) (hy' : y ≤ 18446744073709551615) (hc : 0 ≤ c) (hc' : c ≤ 1)
    (hs : s = (x - y - c) % 18446744073709551616) : bor (band (bxor 18446744073709551615 x) y) (band (bxor 18446744073709551615 (bxor x y)) s) / 9223372036854775808 = -((x - y - c) / 18446744073709551616) := by
  obtain ⟨a, rfl⟩ : ∃ a : Nat, x = a := ⟨x.toNat, by omega⟩
  obtain ⟨b, rfl⟩ : ∃ b : Nat, y = b := ⟨y.toNat, by omega⟩
  obtain ⟨k, rfl⟩ : ∃ k : Nat, c = k := ⟨c.toNat, by omega⟩
  obtain ⟨t, rfl⟩ : ∃ t : Nat, s = t := ⟨s.toNat, by omega⟩
  have ha : a < 2 ^ 64 := by omega
  have hb : b < 2 ^ 64 := by omega
  have ht : t < 2 ^ 64 := by omega
  unfold bor band bxor
  have e1 : ∀ v : BitVec 64, BitVec.ofInt 64 (v.toNat : Int) = v := fun v => by
    apply BitVec.eq_of_toNat_eq; rw [bvn (by omega) (by have := v.isLt; omega)]; omega
  have e2 : ∀ n : Nat, n < 2 ^ 64 → (BitVec.ofInt 64 (n : Int)).toNat = n := fun n hn => by rw [bvn (by omega) (by omega)]; omega
  have e3 : (BitVec.ofInt 64 18446744073709551615).toNat = 18446744073709551615 := by decide
  rw [e1, e1, e1, e1, e1, BitVec.toNat_or, BitVec.toNat_and, BitVec.toNat_and, BitVec.toNat_xor, BitVec.toNat_xor, BitVec.toNat_xor, e3, e2 a ha, e2 b hb, e2 t ht]
  have q : ∀ n : Nat, ((n : Int) / 9223372036854775808) = ((n / 2 ^ 63 : Nat) : Int) := fun n => by omega
  have m : (18446744073709551615 : Nat) < 2 ^ 64 := by decide
  rw [q, top_or _ _ (Nat.and_lt_two_pow _ hb) (Nat.and_lt_two_pow _ ht), top_and _ _ (Nat.xor_lt_two_pow m ha) hb, top_and _ _ (Nat.xor_lt_two_pow m (Nat.xor_lt_two_pow ha hb)) ht, top_xor _ _ m ha, top_xor _ _ m (Nat.xor_lt_two_pow ha hb), top_xor _ _ ha hb]
  have h1 : a / 2 ^ 63 = 0 ∨ a / 2 ^ 63 = 1 := by omega
  have h2 : b / 2 ^ 63 = 0 ∨ b / 2 ^ 63 = 1 := by omega
  rcases h1 with h1 | h1 <;> rcases h2 with h2 | h2 <;> simp [h1, h2] <;> (try split) <;> omega
/-- or without a common bit -/
theorem or_add {a b : Int} {k : Nat} (hk : k ≤ 64) (ha : 0 ≤ a) (ha' : a * 2 ^ k ≤ 18446744073709551615) (hb : 0 ≤ b) (hb' : b < 2 ^ k) : bor (a * 2 ^ k) b = a * 2 ^ k + b := by
  unfold bor
  have hb2 : b ≤ 18446744073709551615 := by
    have h : (2 : Nat) ^ k ≤ 2 ^ 64 := Nat.pow_le_pow_right (by decide) hk
    have e : ((2 : Int) ^ k) = ((2 ^ k : Nat) : Int) := by simp
    omega
  obtain ⟨x, rfl⟩ : ∃ x : Nat, a = x := ⟨a.toNat, by omega⟩
  obtain ⟨y, rfl⟩ : ∃ y : Nat, b = y := ⟨b.toNat, by omega⟩
  have e : ((x : Int) * 2 ^ k) = ((x * 2 ^ k : Nat) : Int) := by simp
  rw [e] at ha' ⊢
  rw [BitVec.toNat_or, bvn (by omega) (by omega), bvn (by omega) (by omega)]
  have hy : y < 2 ^ k := by exact_mod_cast hb'
  have := Nat.shiftLeft_add_eq_or_of_lt hy x
  rw [Nat.shiftLeft_eq] at this
  simp only [Int.toNat_natCast]
  rw [← this]; simp
end Go.Proofs.Ytigllakcfdoagaa.Am.Sp
