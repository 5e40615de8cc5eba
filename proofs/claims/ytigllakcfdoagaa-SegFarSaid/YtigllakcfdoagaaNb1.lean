import Derived.Test.YtigllakcfdoagaaSp6
namespace Go.Proofs.Ytigllakcfdoagaa.Am.Sp
/-! Numbers of 224 bits, by digits -/
def dgt (n : Int) (i : Nat) : Int := n / 4294967296 ^ i % 4294967296
theorem dgt_bd (n : Int) (i : Nat) : 0 ≤ dgt n i ∧ dgt n i < 4294967296 := ⟨Int.emod_nonneg _ (by decide), Int.emod_lt_of_pos _ (by decide)⟩
theorem bpos (i : Nat) : 0 < (4294967296 : Int) ^ i := Int.pow_pos (by decide)
theorem bsucc (i : Nat) : (4294967296 : Int) ^ (i + 1) = 4294967296 ^ i * 4294967296 := Int.pow_succ _ _
/-- the rest below the next digit -/
theorem rest_succ (n : Int) (i : Nat) : n % 4294967296 ^ (i + 1) = n % 4294967296 ^ i + 4294967296 ^ i * dgt n i := by
  have hP := bpos i
  rw [bsucc]
  unfold dgt
  generalize (4294967296 : Int) ^ i = P at *
  have h1 := Int.emod_add_mul_ediv n P
  have h2 := Int.emod_add_mul_ediv (n / P) 4294967296
  have r0 := Int.emod_nonneg n (show P ≠ 0 by omega)
  have r1 := Int.emod_lt_of_pos n hP
  have s0 := Int.emod_nonneg (n / P) (show (4294967296 : Int) ≠ 0 by decide)
  have s1 := Int.emod_lt_of_pos (n / P) (show (0 : Int) < 4294967296 by decide)
  generalize hu : n / P = u at *
  generalize hd : u % 4294967296 = d at *
  generalize hv : u / 4294967296 = v at *
  generalize hr : n % P = r at *
  have e : n = (r + P * d) + P * 4294967296 * v := by rw [← h1, ← h2]; grind
  have lo : 0 ≤ P * d := Int.mul_nonneg (by omega) s0
  have hi : P * d ≤ P * 4294967295 := Int.mul_le_mul_of_nonneg_left (by omega) (by omega)
  rw [e, Int.add_mul_emod_self_left, Int.emod_eq_of_lt (by omega) (by omega)]
theorem rest_zero (n : Int) : n % 4294967296 ^ 0 = 0 := by simp [Int.emod_one]
/-- the carry into digit i of a sum -/
def cy (m n : Int) (i : Nat) : Int := (m % 4294967296 ^ i + n % 4294967296 ^ i) / 4294967296 ^ i
theorem cy_zero (m n : Int) : cy m n 0 = 0 := by simp [cy, Int.emod_one]
theorem rest_bd (n : Int) (i : Nat) : 0 ≤ n % 4294967296 ^ i ∧ n % 4294967296 ^ i < 4294967296 ^ i :=
  ⟨Int.emod_nonneg _ (by have := bpos i; omega), Int.emod_lt_of_pos _ (bpos i)⟩
theorem cy_bd (m n : Int) (i : Nat) : 0 ≤ cy m n i ∧ cy m n i ≤ 1 := by
  have a := rest_bd m i
  have b := rest_bd n i
  have hP := bpos i
  unfold cy
  generalize (4294967296 : Int) ^ i = P at *
  constructor
  · exact Int.ediv_nonneg (by omega) (by omega)
  · have : (m % P + n % P) / P < 2 := Int.ediv_lt_of_lt_mul hP (by omega)
    omega
theorem sum_quot (m n : Int) (i : Nat) : (m + n) / 4294967296 ^ i = m / 4294967296 ^ i + n / 4294967296 ^ i + cy m n i := by
  have hP := bpos i
  unfold cy
  generalize (4294967296 : Int) ^ i = P at *
  have h1 := Int.emod_add_mul_ediv m P
  have h2 := Int.emod_add_mul_ediv n P
  have e : m + n = (m % P + n % P) + P * (m / P + n / P) := by grind
  rw [e, Int.add_mul_ediv_left _ _ (by omega)]
  have e2 : m % P + n % P + P * (m / P + n / P) = m + n := e.symm
  omega
theorem cy_succ (m n : Int) (i : Nat) : cy m n (i + 1) = (cy m n i + (dgt m i + dgt n i)) / 4294967296 := by
  have hP := bpos i
  have a := rest_bd m i
  have b := rest_bd n i
  unfold cy
  rw [rest_succ, rest_succ, bsucc, ← Int.ediv_ediv_of_nonneg (by omega)]
  generalize (4294967296 : Int) ^ i = P at *
  have e : m % P + P * dgt m i + (n % P + P * dgt n i) = (m % P + n % P) + P * (dgt m i + dgt n i) := by grind
  rw [e, Int.add_mul_ediv_left _ _ (by omega)]
theorem dgt_add (m n : Int) (i : Nat) : dgt (m + n) i = (cy m n i + (dgt m i + dgt n i)) % 4294967296 := by
  unfold dgt
  rw [sum_quot]
  omega
theorem dgt_compl (n : Int) (i : Nat) : dgt (-1 - n) i = 4294967295 - dgt n i := by
  have hP := bpos i
  unfold dgt
  generalize (4294967296 : Int) ^ i = P at *
  have h1 := Int.emod_add_mul_ediv n P
  have r0 := Int.emod_nonneg n (show P ≠ 0 by omega)
  have r1 := Int.emod_lt_of_pos n hP
  have e : -1 - n = (P - 1 - n % P) + P * (-1 - n / P) := by grind
  have e2 : (-1 - n) / P = -1 - n / P := by
    rw [e, Int.add_mul_ediv_left _ _ (by omega), Int.ediv_eq_zero_of_lt (by omega) (by omega)]; omega
  rw [e2]; omega
/-- equal digits -/
theorem dgt_congr {m n : Int} {i : Nat} (h : m % 26959946667150639794667015087019630673637144422540572481103610249216 = n % 26959946667150639794667015087019630673637144422540572481103610249216) (hi : i < 7) : dgt m i = dgt n i := by
  have key : ∀ n : Int, dgt (n % 26959946667150639794667015087019630673637144422540572481103610249216) i = dgt n i := by
    intro n
    have e : n % 26959946667150639794667015087019630673637144422540572481103610249216 = n - 26959946667150639794667015087019630673637144422540572481103610249216 * (n / 26959946667150639794667015087019630673637144422540572481103610249216) := by omega
    generalize n / 26959946667150639794667015087019630673637144422540572481103610249216 = q at e
    rw [e]
    have c : i = 0 ∨ i = 1 ∨ i = 2 ∨ i = 3 ∨ i = 4 ∨ i = 5 ∨ i = 6 := by omega
    unfold dgt
    rcases c with rfl | rfl | rfl | rfl | rfl | rfl | rfl <;> simp only [Int.reducePow] <;> omega
  rw [← key m, ← key n, h]
theorem rest_eq {m n : Int} : ∀ {k : Nat}, (∀ i, i < k → dgt m i = dgt n i) → m % 4294967296 ^ k = n % 4294967296 ^ k
  | 0, _ => by rw [rest_zero, rest_zero]
  | k + 1, h => by rw [rest_succ, rest_succ, rest_eq (fun i hi => h i (by omega)), h k (by omega)]
theorem w7 : (4294967296 : Int) ^ 7 = 26959946667150639794667015087019630673637144422540572481103610249216 := by decide
theorem dgts_eq {m n : Int} : ((dgt m 0 == dgt n 0) && ((dgt m 1 == dgt n 1) && ((dgt m 2 == dgt n 2) && ((dgt m 3 == dgt n 3) && ((dgt m 4 == dgt n 4) && ((dgt m 5 == dgt n 5) && ((dgt m 6 == dgt n 6) && true))))))) = decide (m % 26959946667150639794667015087019630673637144422540572481103610249216 = n % 26959946667150639794667015087019630673637144422540572481103610249216) := by
  rw [Bool.eq_iff_iff]
  simp only [Bool.and_eq_true, beq_iff_eq, decide_eq_true_eq, and_true]
  constructor
  · rintro ⟨h0, h1, h2, h3, h4, h5, h6⟩
    rw [← w7]
    refine rest_eq fun i hi => ?_
    have c : i = 0 ∨ i = 1 ∨ i = 2 ∨ i = 3 ∨ i = 4 ∨ i = 5 ∨ i = 6 := by omega
    rcases c with rfl | rfl | rfl | rfl | rfl | rfl | rfl <;> assumption
  · intro h
    exact ⟨dgt_congr h (by decide), dgt_congr h (by decide), dgt_congr h (by decide), dgt_congr h (by decide), dgt_congr h (by decide), dgt_congr h (by decide), dgt_congr h (by decide)⟩
theorem dgt_cons0 {d m : Int} (h0 : 0 ≤ d) (h1 : d < 4294967296) : dgt (d + 4294967296 * m) 0 = d := by
  unfold dgt; rw [Int.pow_zero, Int.ediv_one]; omega
theorem dgt_consS {d m : Int} (h0 : 0 ≤ d) (h1 : d < 4294967296) (i : Nat) : dgt (d + 4294967296 * m) (i + 1) = dgt m i := by
  unfold dgt
  have hP := bpos i
  rw [bsucc, Int.mul_comm (4294967296 ^ i), ← Int.ediv_ediv_of_nonneg (by decide), Int.add_mul_ediv_left _ _ (by decide), Int.ediv_eq_zero_of_lt h0 h1, Int.zero_add]
theorem dgt_small {d : Int} (h0 : 0 ≤ d) (h1 : d < 4294967296) : dgt d 0 = d := by have := dgt_cons0 (m := 0) h0 h1; simpa using this
theorem dgt_zero (i : Nat) : dgt 0 i = 0 := by simp [dgt]
theorem dgt_smallS {d : Int} (h0 : 0 ≤ d) (h1 : d < 4294967296) (i : Nat) : dgt d (i + 1) = 0 := by
  have := dgt_consS (m := 0) h0 h1 i
  rw [dgt_zero] at this; simpa using this
theorem dgt_shift (v : Int) (j i : Nat) : dgt (v * 4294967296 ^ j) (j + i) = dgt v i := by
  unfold dgt
  have hP := bpos j
  have e : (4294967296 : Int) ^ (j + i) = 4294967296 ^ j * 4294967296 ^ i := Int.pow_add _ _ _
  rw [e, ← Int.ediv_ediv_of_nonneg (by omega), Int.mul_ediv_cancel _ (by omega)]
theorem dgt_below (v : Int) {j i : Nat} (h : i < j) : dgt (v * 4294967296 ^ j) i = 0 := by
  unfold dgt
  obtain ⟨k, rfl⟩ : ∃ k, j = i + (k + 1) := ⟨j - i - 1, by omega⟩
  have hP := bpos i
  have e : (4294967296 : Int) ^ (i + (k + 1)) = (4294967296 ^ k * 4294967296) * 4294967296 ^ i := by rw [Int.pow_add, Int.pow_succ]; grind
  rw [e, ← Int.mul_assoc, Int.mul_ediv_cancel _ (by omega), ← Int.mul_assoc, Int.mul_emod_left]
/-- the whole number from its first digits -/
theorem rest_id {n : Int} (h0 : 0 ≤ n) {k : Nat} (h1 : n < 4294967296 ^ k) : n % 4294967296 ^ k = n := Int.emod_eq_of_lt h0 h1
end Go.Proofs.Ytigllakcfdoagaa.Am.Sp
