import Derived.Test.YtigllakcfdoagaaNb3
import Derived.Test.YtigllakcfdoagaaAm12
namespace Go.Proofs.Ytigllakcfdoagaa.Am.Sp
theorem umod {a b : Int} (h : 0 ≤ a) : Int.tmod a b = a % b := Int.tmod_eq_emod_of_nonneg h
theorem ufd {a b : Int} (h : 0 ≤ b) : Int.fdiv a b = a / b := Int.fdiv_eq_ediv_of_nonneg _ h
theorem uquo {a b : Int} (h0 : 0 ≤ a) (h1 : a ≤ 18446744073709551615) (h : 0 < b) : IntKind.wrap .u64 (Int.tdiv a b) = a / b := by
  rw [Int.tdiv_eq_ediv_of_nonneg h0]
  exact wrap_u64 (Int.ediv_nonneg h0 (by omega)) (Int.le_trans (Int.ediv_le_self b h0) h1)
theorem ulow {a : Int} : IntKind.wrap .u64 a = a % 18446744073709551616 := IntKind.wrap_u64 a
theorem plus_bd1 (m n : Int) (i : Nat) : 0 ≤ dgt m i + dgt n i ∧ dgt m i + dgt n i ≤ 18446744073709551615 := by
  have a := dgt_bd m i
  have b := dgt_bd n i
  omega
theorem plus_bd2 (m n : Int) (i : Nat) : 0 ≤ cy m n i + (dgt m i + dgt n i) ∧ cy m n i + (dgt m i + dgt n i) ≤ 18446744073709551615 := by
  have a := dgt_bd m i
  have b := dgt_bd n i
  have c := cy_bd m n i
  omega
theorem neg_dig (n : Int) (i : Nat) : IntKind.wrap .u64 ((BitVec.ofInt 64 (dgt n i) ^^^ BitVec.ofInt 64 4294967295).toNat : Int) = dgt (-1 - n) i := by
  rw [wrapbv, dgt_compl, BitVec.toNat_xor, bvn (dgt_bd n i).1 (by have := dgt_bd n i; omega), bvn (by decide) (by decide)]
  have h := dgt_bd n i
  generalize dgt n i = d at *
  obtain ⟨a, rfl⟩ : ∃ a : Nat, d = a := ⟨d.toNat, by omega⟩
  have ha : a < 2 ^ 32 := by omega
  have e : a ^^^ (2 ^ 32 - 1) = 2 ^ 32 - (a + 1) := by
    apply Nat.eq_of_testBit_eq
    intro i
    rw [Nat.testBit_xor, Nat.testBit_two_pow_sub_one, Nat.testBit_two_pow_sub_succ ha]
    by_cases hi : i < 32
    · simp [hi]
    · have : a.testBit i = false := Nat.testBit_lt_two_pow (Nat.lt_of_lt_of_le ha (Nat.pow_le_pow_right (by decide) (by omega)))
      simp [hi, this]
  have e2 : (4294967295 : Int).toNat = 2 ^ 32 - 1 := by decide
  rw [e2, Int.toNat_natCast, e]
  omega
theorem half_dig (n : Int) (i : Nat) : dgt n i / 2 + dgt n (i + 1) % 2 * 2147483648 = dgt (n / 2) i := by
  unfold dgt
  have hP := bpos i
  rw [bsucc, ← Int.ediv_ediv_of_nonneg (by omega), Int.ediv_ediv_of_nonneg (x := n) (y := 2) (by decide), Int.mul_comm 2, ← Int.ediv_ediv_of_nonneg (x := n) (by omega)]
  omega
theorem half_dig6 {n : Int} (h0 : 0 ≤ n) (h1 : n < 26959946667150639794667015087019630673637144422540572481103610249216) : dgt n 6 / 2 = dgt (n / 2) 6 := by
  have e := half_dig n 6
  have z : dgt n 7 = 0 := by
    unfold dgt
    rw [w7, Int.ediv_eq_zero_of_lt h0 h1]; rfl
  rw [show 6 + 1 = 7 from rfl, z] at e
  omega
def H7 : Int := 13479973333575319897333507543509815336818572211270286240551805124608
theorem zero_dig {n : Int} (h0 : -13479973333575319897333507543509815336818572211270286240551805124608 ≤ n) (h1 : n < 13479973333575319897333507543509815336818572211270286240551805124608) :
    ((dgt n 0 == 0) && ((dgt n 1 == 0) && ((dgt n 2 == 0) && ((dgt n 3 == 0) && ((dgt n 4 == 0) && ((dgt n 5 == 0) && ((dgt n 6 == 0) && true))))))) = decide (n = 0) := by
  have h := dgts_eq (m := n) (n := 0)
  simp only [dgt_zero] at h
  rw [h, decide_eq_decide]
  omega
theorem sgn_neg (n : Int) : decide (sgn n < 0) = decide (n < 0) := by
  rw [decide_eq_decide]; unfold sgn; (repeat' split) <;> omega
theorem low_dig (n : Int) : dgt n 0 = n % 4294967296 := by unfold dgt; rw [Int.pow_zero, Int.ediv_one]
theorem par_dig (n : Int) : dgt n 0 % 2 = n % 2 := by rw [low_dig]; omega
theorem sign_dig {n : Int} (h0 : -13479973333575319897333507543509815336818572211270286240551805124608 ≤ n) (h1 : n < 13479973333575319897333507543509815336818572211270286240551805124608) :
    (dgt n 6 / 2147483648 == 1) = decide (n < 0) := by
  rw [Bool.eq_iff_iff, beq_iff_eq, decide_eq_true_eq]
  unfold dgt
  simp only [Int.reducePow]
  omega
theorem eq_dig {m n : Int} (h : -26959946667150639794667015087019630673637144422540572481103610249216 < m - n) (h' : m - n < 26959946667150639794667015087019630673637144422540572481103610249216) :
    ((dgt m 0 == dgt n 0) && ((dgt m 1 == dgt n 1) && ((dgt m 2 == dgt n 2) && ((dgt m 3 == dgt n 3) && ((dgt m 4 == dgt n 4) && ((dgt m 5 == dgt n 5) && ((dgt m 6 == dgt n 6) && true))))))) = decide (m = n) := by
  rw [dgts_eq, decide_eq_decide]
  omega
theorem lof_dig (n : Int) (h0 : -9223372036854775808 ≤ n) (h1 : n ≤ 9223372036854775807) :
    dgt n 0 = n % 18446744073709551616 % 4294967296 ∧ dgt n 1 = n % 18446744073709551616 / 4294967296 ∧ (n < 0 → dgt n 2 = 4294967295 ∧ dgt n 3 = 4294967295 ∧ dgt n 4 = 4294967295 ∧ dgt n 5 = 4294967295 ∧ dgt n 6 = 4294967295) ∧
      (¬ n < 0 → dgt n 2 = 0 ∧ dgt n 3 = 0 ∧ dgt n 4 = 0 ∧ dgt n 5 = 0 ∧ dgt n 6 = 0) := by
  unfold dgt
  simp only [Int.reducePow]
  omega
theorem or_dig (n : Int) (i : Nat) : IntKind.wrap .u64 ((BitVec.ofInt 64 (dgt n (i + 1) * 4294967296) ||| BitVec.ofInt 64 (dgt n i)).toNat : Int) = dgt n (i + 1) * 4294967296 + dgt n i := by
  rw [wrapbv]
  have a := dgt_bd n i
  have b := dgt_bd n (i + 1)
  have := or_add (a := dgt n (i + 1)) (b := dgt n i) (k := 32) (by decide) b.1 (by simp only [Int.reducePow]; omega) a.1 (by simp only [Int.reducePow]; omega)
  simpa [bor] using this
theorem two_dig (n : Int) : dgt n 1 * 4294967296 + dgt n 0 = n % 18446744073709551616 := by
  unfold dgt; simp only [Int.reducePow]; omega
theorem two_dig' (n : Int) : dgt n 3 * 4294967296 + dgt n 2 = n / 18446744073709551616 % 18446744073709551616 := by
  unfold dgt; simp only [Int.reducePow]; omega
end Go.Proofs.Ytigllakcfdoagaa.Am.Sp
namespace Go.Proofs.Ytigllakcfdoagaa.Am
open Go
/-- the cells of a number of 224 bits -/
def lds (n : Int) : List Value := [.int .u64 (Sp.dgt n 0), .int .u64 (Sp.dgt n 1), .int .u64 (Sp.dgt n 2), .int .u64 (Sp.dgt n 3), .int .u64 (Sp.dgt n 4), .int .u64 (Sp.dgt n 5), .int .u64 (Sp.dgt n 6)]
/-- a number of 224 bits -/
def lval (n : Int) : Value := .agg (lds n).toArray
theorem lds_get (n : Int) {j : Nat} (h : j < 7) : (lds n)[j]? = some (.int .u64 (Sp.dgt n j)) := by
  have c : j = 0 ∨ j = 1 ∨ j = 2 ∨ j = 3 ∨ j = 4 ∨ j = 5 ∨ j = 6 := by omega
  rcases c with rfl | rfl | rfl | rfl | rfl | rfl | rfl <;> rfl
theorem lds_congr {m n : Int} (h : m % 26959946667150639794667015087019630673637144422540572481103610249216 = n % 26959946667150639794667015087019630673637144422540572481103610249216) : lds m = lds n := by
  unfold lds
  rw [Sp.dgt_congr h (by decide), Sp.dgt_congr h (by decide), Sp.dgt_congr h (by decide), Sp.dgt_congr h (by decide), Sp.dgt_congr h (by decide), Sp.dgt_congr h (by decide), Sp.dgt_congr h (by decide)]
theorem ldV_lds {P : Program} {t : TypeId} {n : Int} {off j : Nat} (ha : aggB P t = some false) (hi : (P.info? t).isSome = true) (ho : off = j) (h : j < 7) : ldV P t (lds n) off = some (.int .u64 (Sp.dgt n j)) := by
  subst ho
  unfold ldV
  obtain ⟨inf, hinf⟩ := Option.isSome_iff_exists.1 hi
  rw [hinf]
  simp only [ha]
  exact lds_get n h
theorem ac_args {P : Program} {f : FuncId} {m : Nat} {args args' : List Value} {pre post : List (Nat × Blk)} {v : Value} (h : args = args') (ac : AC P f m args' pre v post) : AC P f m args pre v post := h ▸ ac
end Go.Proofs.Ytigllakcfdoagaa.Am
