import Derived.Test.YtngmegnaohmapaaDoorNc7
import Derived.Test.YtngmegnaohmapaaDoorRg9
set_option linter.unusedVariables false
set_option linter.unusedSimpArgs false
namespace Go.Proofs.YtngmegnaohmapaaDoor.Am.Sp
open Go
/-! Decimal numerals, told by lists of bytes -/
def dgB (b : UInt8) : Bool := decide (48 ≤ b.toNat) && decide (b.toNat ≤ 57)
/-- which bytes are digits: the set, as it grows -/
def tabD : Nat → List Bool
  | 0 => List.replicate 256 false
  | i + 1 => (tabD i).set (48 + i) true
theorem tabD_len : ∀ i, (tabD i).length = 256
  | 0 => by rw [tabD, List.length_replicate]
  | i + 1 => by rw [tabD, List.length_set, tabD_len i]
theorem tabD_get : ∀ (i c : Nat), i ≤ 10 → c < 256 → (tabD i).getD c false = (decide (48 ≤ c) && decide (c < 48 + i))
  | 0, c, _, hc => by
    have : (decide (48 ≤ c) && decide (c < 48 + 0)) = false := by rw [Bool.and_eq_false_iff, decide_eq_false_iff_not, decide_eq_false_iff_not]; omega
    rw [this, tabD, List.getD_eq_getElem?_getD, List.getElem?_replicate]; simp [hc]
  | i + 1, c, h, hc => by
    rw [tabD, List.getD_eq_getElem?_getD, List.getElem?_set]
    split
    · rename_i e
      subst e
      rw [if_pos (by rw [tabD_len]; omega)]
      simp
    · rename_i e
      rw [← List.getD_eq_getElem?_getD, tabD_get i c (by omega) hc, Bool.eq_iff_iff]
      simp only [Bool.and_eq_true, decide_eq_true_eq]; omega
theorem tabD_dg (b : UInt8) : (tabD 10).getD b.toNat false = dgB b := by
  rw [tabD_get 10 _ (Nat.le_refl _) b.toNat_lt]
  unfold dgB
  rw [Bool.eq_iff_iff]; simp only [Bool.and_eq_true, decide_eq_true_eq]; omega
/-- without the digits at the end -/
def trR (l : List UInt8) : List UInt8 := (l.reverse.dropWhile dgB).reverse
def trL (l : List UInt8) : List UInt8 := l.dropWhile dgB
theorem lst_snoc {l : List UInt8} {n : Nat} (h : l.length = n + 1) : l = l.take n ++ [l.getD n 0] := by
  have e : l.getD n 0 = l[n]'(by omega) := by simp [List.getD_eq_getElem?_getD, List.getElem?_eq_getElem (show n < l.length by omega)]
  rw [e]
  rw [List.take_append_getElem (by omega), List.take_of_length_le (by omega)]
theorem trR_dig {l : List UInt8} {n : Nat} (h : l.length = n + 1) (d : dgB (l.getD n 0) = true) : trR (l.take n) = trR l := by
  conv => rhs; rw [lst_snoc h]
  unfold trR
  rw [List.reverse_append, List.reverse_singleton, List.singleton_append, List.dropWhile_cons, if_pos d]
theorem trR_stop {l : List UInt8} {n : Nat} (h : l.length = n + 1) (d : dgB (l.getD n 0) = false) : trR l = l := by
  conv => lhs; rw [lst_snoc h]
  unfold trR
  rw [List.reverse_append, List.reverse_singleton, List.singleton_append, List.dropWhile_cons, if_neg (by rw [d]; decide), List.reverse_cons, List.reverse_reverse, ← lst_snoc h]
theorem trR_le (l : List UInt8) : (trR l).length ≤ l.length := by
  unfold trR
  rw [List.length_reverse]
  have := (List.dropWhile_sublist (p := dgB) (l := l.reverse)).length_le
  rwa [List.length_reverse] at this
theorem trR_nil : trR [] = [] := rfl
theorem trL_dig {l : List UInt8} (h : 0 < l.length) (d : dgB (l.getD 0 0) = true) : trL (l.drop 1) = trL l := by
  cases l with
  | nil => simp at h
  | cons a t => unfold trL; rw [List.drop_one, List.tail_cons, List.dropWhile_cons, if_pos (show dgB a = true from d)]
theorem trL_stop {l : List UInt8} (h : 0 < l.length) (d : dgB (l.getD 0 0) = false) : trL l = l := by
  cases l with
  | nil => simp at h
  | cons a t => unfold trL; rw [List.dropWhile_cons, if_neg (by rw [show dgB a = false from d]; decide)]
theorem dropW_nil {l : List UInt8} : l.dropWhile dgB = [] ↔ l.all dgB = true := by
  induction l with
  | nil => simp
  | cons a t ih =>
    rw [List.dropWhile_cons, List.all_cons, Bool.and_eq_true]
    split
    · rename_i h; rw [ih]; exact ⟨fun k => ⟨h, k⟩, fun k => k.2⟩
    · rename_i h; exact ⟨fun k => by simp at k, fun k => (h k.1).elim⟩
theorem dropW_all {l : List UInt8} (h : l.all dgB = true) : l.dropWhile dgB = [] := dropW_nil.2 h
theorem tr_nil {l : List UInt8} : (trL (trR l) == []) = l.all dgB := by
  rw [Bool.eq_iff_iff, beq_iff_eq]
  constructor
  · intro h
    have h1 := dropW_nil.1 h
    -- what is left at the end is empty, for its last byte would be no digit
    have h2 : trR l = [] := by
      apply Classical.byContradiction
      intro hn
      unfold trR at hn h1
      rw [List.reverse_eq_nil_iff] at hn
      rw [List.all_reverse] at h1
      cases e : l.reverse.dropWhile dgB with
      | nil => exact hn e
      | cons a t =>
        rw [e, List.all_cons, Bool.and_eq_true] at h1
        have k : ∀ (m : List UInt8) (a : UInt8) (t : List UInt8), m.dropWhile dgB = a :: t → dgB a = false := by
          intro m
          induction m with
          | nil => intro a t h; simp at h
          | cons b m ih =>
            intro a t h
            rw [List.dropWhile_cons] at h
            split at h
            · exact ih a t h
            · rename_i q
              simp only [List.cons.injEq] at h
              rw [← h.1]; simpa using q
        rw [k _ _ _ e] at h1
        exact absurd h1.1 (by decide)
    unfold trR at h2
    rw [List.reverse_eq_nil_iff, dropW_nil, List.all_reverse] at h2
    exact h2
  · intro h
    have : trR l = [] := by
      unfold trR
      rw [List.reverse_eq_nil_iff, dropW_nil, List.all_reverse]; exact h
    rw [this]; rfl
/-- a text begins with the sign -/
def hp45 (l : List UInt8) : Bool := decide (1 ≤ l.length) && (l.take 1 == [45])
def bdy (l : List UInt8) : List UInt8 := if hp45 l = true then l.drop 1 else l
theorem bdy_len (l : List UInt8) : (bdy l).length ≤ l.length := by unfold bdy; split <;> simp
theorem hp_cons {l : List UInt8} (h : hp45 l = true) : l = 45 :: bdy l := by
  unfold bdy; rw [if_pos h]
  unfold hp45 at h
  rw [Bool.and_eq_true, decide_eq_true_eq, beq_iff_eq] at h
  cases l with
  | nil => simp at h
  | cons a t =>
    have := h.2
    simp only [List.take_succ_cons, List.take_zero, List.cons.injEq, and_true] at this
    rw [this]; rfl
theorem bdy_ne (l : List UInt8) : (!(bdy l == l)) = hp45 l := by
  cases h : hp45 l
  · unfold bdy; rw [h]; simp
  · rw [Bool.not_eq_true', beq_eq_false_iff_ne]
    intro e
    have := hp_cons h
    rw [e] at this
    have := congrArg List.length this
    simp at this
/-! the digits of a number -/
def digs (n : Nat) : List UInt8 := if n = 0 then [] else digs (n / 10) ++ [UInt8.ofNat (48 + n % 10)]
termination_by n
theorem digs_zero : digs 0 = [] := by rw [digs]; simp
theorem digs_step {n : Nat} (h : n ≠ 0) (s : List UInt8) : digs (n / 10) ++ ([UInt8.ofNat (48 + n % 10)] ++ s) = digs n ++ s := by
  conv => rhs; rw [digs, if_neg h]
  rw [List.append_assoc]
def numT (x : Int) : List UInt8 := if x = 0 then [48] else if x < 0 then [45] ++ digs x.natAbs else digs x.natAbs
theorem digs_ne {n : Nat} (h : n ≠ 0) : digs n ≠ [] := by rw [digs, if_neg h]; simp
theorem digs_len : ∀ (k n : Nat), n < 10 ^ k → (digs n).length ≤ k
  | 0, n, h => by
    have : n = 0 := by omega
    subst this; rw [digs_zero]; simp
  | k + 1, n, h => by
    rw [digs]
    split
    · simp
    · have := digs_len k (n / 10) (by rw [Nat.pow_succ] at h; omega)
      simp; omega
/-! the number of digits -/
def rdN (ds : List UInt8) : Nat := ds.foldl (fun a c => 10 * a + (c.toNat - 48)) 0
theorem rdN_snoc (ds : List UInt8) (c : UInt8) : rdN (ds ++ [c]) = 10 * rdN ds + (c.toNat - 48) := by unfold rdN; rw [List.foldl_append]; rfl
theorem rdN_take {l : List UInt8} {i : Nat} (h : i < l.length) : rdN (l.take (i + 1)) = 10 * rdN (l.take i) + ((l.getD i 0).toNat - 48) := by
  have e : l.take (i + 1) = l.take i ++ [l.getD i 0] := by
    rw [List.getD_eq_getElem?_getD, List.getElem?_eq_getElem h, Option.getD_some, List.take_succ_eq_append_getElem h]
  rw [e, rdN_snoc]
theorem all_get {l : List UInt8} (h : l.all dgB = true) {i : Nat} (hi : i < l.length) : 48 ≤ (l.getD i 0).toNat ∧ (l.getD i 0).toNat ≤ 57 := by
  have := List.all_eq_true.1 h (l.getD i 0) (by rw [List.getD_eq_getElem?_getD, List.getElem?_eq_getElem hi]; exact List.getElem_mem hi)
  unfold dgB at this
  rw [Bool.and_eq_true, decide_eq_true_eq, decide_eq_true_eq] at this
  exact this
theorem rdN_lt (l : List UInt8) (h : l.all dgB = true) : ∀ i, i ≤ l.length → rdN (l.take i) < 10 ^ i
  | 0, _ => by rw [List.take_zero]; decide
  | i + 1, hi => by
    have a := rdN_lt l h i (by omega)
    have b := all_get h (show i < l.length by omega)
    rw [rdN_take (by omega), Nat.pow_succ]; omega
theorem rdN_mono (l : List UInt8) (h : l.all dgB = true) {i j : Nat} (hij : i ≤ j) (hj : j ≤ l.length) : rdN (l.take i) ≤ rdN (l.take j) := by
  induction j with
  | zero => have : i = 0 := by omega
            subst this; exact Nat.le_refl _
  | succ j ih =>
    by_cases c : i = j + 1
    · subst c; exact Nat.le_refl _
    · have := ih (by omega) (by omega)
      rw [rdN_take (by omega)]; omega
/-- a number is read back from its digits -/
theorem rd_digs (n : Nat) : rdN (digs n) = n := by
  induction n using Nat.strongRecOn with
  | _ n ih =>
    rw [digs]
    split
    · rename_i h; subst h; rfl
    · rw [rdN_snoc, ih (n / 10) (by omega)]
      have e : (UInt8.ofNat (48 + n % 10)).toNat = 48 + n % 10 := by simp; omega
      rw [e]; omega
theorem digs_dig (n : Nat) : (digs n).all dgB = true := by
  induction n using Nat.strongRecOn with
  | _ n ih =>
    rw [digs]
    split
    · rfl
    · rw [List.all_append, ih (n / 10) (by omega)]
      have e : (UInt8.ofNat (48 + n % 10)).toNat = 48 + n % 10 := by simp; omega
      simp only [List.all_cons, List.all_nil, dgB, e, Bool.and_true, Bool.true_and, Bool.and_eq_true, decide_eq_true_eq]; omega
/-! the value and the error of a text -/
def vlT (l : List UInt8) : Int := if hp45 l = true then -(rdN (bdy l) : Int) else (rdN (bdy l) : Int)
/-- a text that is no numeral -/
def badT (l : List UInt8) : Bool := (bdy l == []) || (!((bdy l).all dgB) || (((((bdy l).getD 0 0).toNat : Nat) : Int) == 48 && !(l == [48])))
def badN (l : List UInt8) : Bool := (bdy l == []) || ((!(bdy l == [48]) && ((((bdy l).getD 0 0).toNat : Nat) : Int) == 48) || (l == [45, 48]))
theorem hp_48 {l : List UInt8} (h : l = [48]) : bdy l = [48] := by subst h; decide
theorem bad_n {l : List UInt8} (ha : (bdy l).all dgB = true) : badT l = badN l := by
  unfold badT badN
  rw [ha]
  cases c : (bdy l == [])
  · simp only [Bool.false_or, Bool.not_true]
    cases h : hp45 l
    · have e : bdy l = l := by unfold bdy; rw [if_neg (by rw [h]; decide)]
      rw [e]
      have : (l == [45, 48]) = false := by
        rw [beq_eq_false_iff_ne]; intro q; subst q; revert h; decide
      rw [this, Bool.or_false, Bool.and_comm]
    · have e := hp_cons h
      have n48 : (l == [48]) = false := by
        rw [beq_eq_false_iff_ne]; intro q; subst q; revert h; decide
      rw [n48, Bool.not_false, Bool.and_true]
      generalize hb : bdy l = t at *
      cases d : ((((t.getD 0 0).toNat : Nat) : Int) == 48)
      · rw [Bool.and_false, Bool.false_or]
        symm; rw [beq_eq_false_iff_ne]
        intro q; rw [e] at q
        simp only [List.cons.injEq, true_and] at q
        rw [q] at d; revert d; decide
      · rw [Bool.and_true]
        cases z : (t == [48])
        · rfl
        · rw [beq_iff_eq] at z
          rw [e, z]; rfl
  · rfl
theorem bad_all {l : List UInt8} (ha : (bdy l).all dgB = false) : badT l = true := by
  unfold badT; rw [ha]; simp
theorem bad_nn {l : List UInt8} (h : badN l = true) : badT l = true := by
  cases ha : (bdy l).all dgB
  · exact bad_all ha
  · rw [bad_n ha, h]
def rdE (l : List UInt8) : Int := if 60 < l.length then 2 else if badT l = true then 15 else if in128 (vlT l) = true then 0 else 2
def rdV (l : List UInt8) : Int := if rdE l = 0 then vlT l else 0
theorem rd_large {l : List UInt8} (h : 60 < l.length) : rdV l = 0 ∧ rdE l = 2 := by
  have : rdE l = 2 := if_pos h
  unfold rdV; rw [this]; exact ⟨rfl, rfl⟩
theorem rd_bad {l : List UInt8} (h : ¬ 60 < l.length) (b : badT l = true) : rdV l = 0 ∧ rdE l = 15 := by
  have : rdE l = 15 := by unfold rdE; rw [if_neg h, if_pos b]
  unfold rdV; rw [this]; exact ⟨rfl, rfl⟩
theorem rd_out {l : List UInt8} (h : ¬ 60 < l.length) (b : badT l = false) (k : in128 (vlT l) = false) : rdV l = 0 ∧ rdE l = 2 := by
  have : rdE l = 2 := by unfold rdE; rw [if_neg h, if_neg (by rw [b]; decide), if_neg (by rw [k]; decide)]
  unfold rdV; rw [this]; exact ⟨rfl, rfl⟩
theorem rd_in {l : List UInt8} (h : ¬ 60 < l.length) (b : badT l = false) (k : in128 (vlT l) = true) : rdV l = vlT l ∧ rdE l = 0 := by
  have : rdE l = 0 := by unfold rdE; rw [if_neg h, if_neg (by rw [b]; decide), if_pos k]
  unfold rdV; rw [this]; exact ⟨rfl, rfl⟩
theorem rdV_bd (l : List UInt8) : -170141183460469231731687303715884105728 ≤ rdV l ∧ rdV l < 170141183460469231731687303715884105728 := by
  by_cases h : 60 < l.length
  · rw [(rd_large h).1]; omega
  · cases b : badT l
    · cases k : in128 (vlT l)
      · rw [(rd_out h b k).1]; omega
      · rw [(rd_in h b k).1]
        have := (in128_iff _).1 k; omega
    · rw [(rd_bad h b).1]; omega
end Go.Proofs.YtngmegnaohmapaaDoor.Am.Sp

set_option linter.unusedVariables false
set_option linter.unusedSimpArgs false
namespace Go.Proofs.YtngmegnaohmapaaDoor.Am.Sp
open Go
/-! Division by ten, word by word -/
def rm10 (n : Int) (i : Nat) : Int := n / 4294967296 ^ i % 10
theorem rm10_bd (n : Int) (i : Nat) : 0 ≤ rm10 n i ∧ rm10 n i ≤ 9 := by
  unfold rm10
  have a := Int.emod_nonneg (n / 4294967296 ^ i) (show (10 : Int) ≠ 0 by decide)
  have b := Int.emod_lt_of_pos (n / 4294967296 ^ i) (show (0 : Int) < 10 by decide)
  omega
theorem rm10_0 (n : Int) : rm10 n 0 = n % 10 := by unfold rm10; rw [Int.pow_zero, Int.ediv_one]
theorem rm10_top {n : Int} (h0 : 0 ≤ n) (h1 : n < 26959946667150639794667015087019630673637144422540572481103610249216) : rm10 n 7 = 0 := by
  unfold rm10
  rw [Int.ediv_eq_zero_of_lt h0 (by simpa using h1)]; rfl
theorem long_parts (n : Int) (i : Nat) : rm10 n (i + 1) * 4294967296 + dgt n i = n / 4294967296 ^ i - 4294967296 * 10 * (n / 4294967296 ^ (i + 1) / 10) := by
  unfold rm10 dgt
  have e : n / 4294967296 ^ (i + 1) = n / 4294967296 ^ i / 4294967296 := by rw [Int.pow_succ, Int.ediv_ediv_of_nonneg (Int.pow_nonneg (by decide))]
  rw [e]
  generalize n / 4294967296 ^ i = a
  omega
theorem long_q (n : Int) (i : Nat) : (rm10 n (i + 1) * 4294967296 + dgt n i) / 10 = dgt (n / 10) i := by
  rw [long_parts]
  unfold dgt
  have e : n / 4294967296 ^ (i + 1) = n / 4294967296 ^ i / 4294967296 := by rw [Int.pow_succ, Int.ediv_ediv_of_nonneg (Int.pow_nonneg (by decide))]
  have f : n / 10 / 4294967296 ^ i = n / 4294967296 ^ i / 10 := by rw [Int.ediv_ediv_of_nonneg (by decide), Int.mul_comm, ← Int.ediv_ediv_of_nonneg (Int.pow_nonneg (by decide))]
  rw [e, f]
  generalize n / 4294967296 ^ i = a
  omega
theorem long_r (n : Int) (i : Nat) : (rm10 n (i + 1) * 4294967296 + dgt n i) % 10 = rm10 n i := by
  rw [long_parts]
  unfold rm10
  have e : n / 4294967296 ^ (i + 1) = n / 4294967296 ^ i / 4294967296 := by rw [Int.pow_succ, Int.ediv_ediv_of_nonneg (Int.pow_nonneg (by decide))]
  rw [e]
  generalize n / 4294967296 ^ i = a
  omega
theorem two_q {v : Int} (h : 0 ≤ v) : (v / 18446744073709551616 % 10 * 18446744073709551616 + v % 18446744073709551616) / 10 = v / 10 % 18446744073709551616 := by omega
theorem two_r {v : Int} (h : 0 ≤ v) : (v / 18446744073709551616 % 10 * 18446744073709551616 + v % 18446744073709551616) % 10 = v % 10 := by omega
theorem digs_next {v : Int} {s : List UInt8} (h : 0 < v) : digs (v / 10).toNat ++ ([UInt8.ofNat (48 + v % 10).toNat] ++ s) = digs v.toNat ++ s := by
  rw [show (v / 10).toNat = v.toNat / 10 by omega, show (48 + v % 10).toNat = 48 + v.toNat % 10 by omega]
  exact digs_step (by omega) s
theorem numT_z {x : Int} (h : x = 0) : numT x = [48] := if_pos h
theorem numT_n {x : Int} {s : List UInt8} (h : x < 0) (e : s = digs x.natAbs) : numT x = [45] ++ s := by
  unfold numT; rw [if_neg (by omega), if_pos h, e]
theorem numT_p {x : Int} {s : List UInt8} (h : 0 < x) (e : s = digs x.natAbs) : numT x = s := by
  unfold numT; rw [if_neg (by omega), if_neg (by omega), e]
theorem digs_nil {n : Nat} (h : digs n = []) : n = 0 := by
  apply Classical.byContradiction; intro hn; exact digs_ne hn h
theorem sgn_cases (n : Int) : (n < 0 ∧ sgn n = -1) ∨ (n = 0 ∧ sgn n = 0) ∨ (0 < n ∧ sgn n = 1) := by
  unfold sgn; (repeat' split) <;> omega
theorem numT_len {x : Int} (h0 : -13479973333575319897333507543509815336818572211270286240551805124608 ≤ x) (h1 : x < 13479973333575319897333507543509815336818572211270286240551805124608) : (numT x).length ≤ 70 := by
  have := digs_len 68 x.natAbs (by simp only [Nat.reducePow]; omega)
  unfold numT
  split
  · simp
  · split
    · simp; omega
    · omega
/-! Reading, digit by digit -/
def dv (l : List UInt8) (i : Nat) : Int := (((bdy l).getD i 0).toNat : Int) - 48
def pv (l : List UInt8) (i : Nat) : Int := if hp45 l = true then -(rdN ((bdy l).take i) : Int) else (rdN ((bdy l).take i) : Int)
theorem dv_bd {l : List UInt8} {i : Nat} (h : (bdy l).all dgB = true) (hi : i < (bdy l).length) : 0 ≤ dv l i ∧ dv l i ≤ 9 := by
  have := all_get h hi
  unfold dv; omega
theorem pv_zero (l : List UInt8) : pv l 0 = 0 := by unfold pv; rw [List.take_zero]; split <;> rfl
theorem rd_next {l : List UInt8} {i : Nat} (h : (bdy l).all dgB = true) (hi : i < (bdy l).length) : (rdN ((bdy l).take (i + 1)) : Int) = (rdN ((bdy l).take i) : Int) * 10 + dv l i := by
  have := all_get h hi
  rw [rdN_take hi]; unfold dv; omega
theorem pv_pos {l : List UInt8} {i : Nat} (h : (bdy l).all dgB = true) (hi : i < (bdy l).length) (p : hp45 l = false) : pv l (i + 1) = pv l i * 10 + dv l i ∧ 0 ≤ pv l i := by
  have := rd_next h hi
  unfold pv; rw [p, if_neg (by decide), if_neg (by decide)]; omega
theorem pv_neg {l : List UInt8} {i : Nat} (h : (bdy l).all dgB = true) (hi : i < (bdy l).length) (p : hp45 l = true) : pv l (i + 1) = pv l i * 10 + (0 - dv l i) ∧ pv l i ≤ 0 := by
  have := rd_next h hi
  unfold pv; rw [p, if_pos rfl, if_pos rfl]; omega
theorem pv_end (l : List UInt8) : pv l (bdy l).length = vlT l := by unfold pv vlT; rw [List.take_length]
theorem in128_f {x : Int} : in128 x = false ↔ ¬ (-170141183460469231731687303715884105728 ≤ x ∧ x ≤ 170141183460469231731687303715884105727) := by
  rw [← in128_iff, Bool.not_eq_true]
/-- what is too large stays too large -/
theorem pv_out2 {l : List UInt8} {i : Nat} (h : (bdy l).all dgB = true) (hi : i ≤ (bdy l).length) (k : in128 (pv l i) = false) : in128 (vlT l) = false := by
  have m := rdN_mono _ h hi (Nat.le_refl _)
  rw [List.take_length] at m
  rw [in128_f] at k ⊢
  unfold pv at k
  unfold vlT
  split
  · rename_i p; rw [if_pos p] at k; omega
  · rename_i p; rw [if_neg p] at k; omega
theorem pv_out1 {l : List UInt8} {i : Nat} (h : (bdy l).all dgB = true) (hi : i < (bdy l).length) (k : in128 (pv l i * 10) = false) : in128 (vlT l) = false := by
  refine pv_out2 h (show i + 1 ≤ _ from hi) ?_
  have d := dv_bd h hi
  rw [in128_f] at k ⊢
  cases p : hp45 l
  · obtain ⟨a, b⟩ := pv_pos h hi p; omega
  · obtain ⟨a, b⟩ := pv_neg h hi p; omega
theorem nx_pos {t d : Int} (h : in128 t = true) (d0 : 0 < d) (d9 : d ≤ 9) : decide (wh (t + d) < wh t) = !(in128 (t + d)) := by
  rw [in128_iff] at h
  rw [Bool.eq_iff_iff, decide_eq_true_eq, Bool.not_eq_true', in128_f]
  unfold wh s64
  omega
theorem nx_neg {t d : Int} (h : in128 t = true) (d0 : d < 0) (d9 : -9 ≤ d) : decide (wh (t + d) > wh t) = !(in128 (t + d)) := by
  rw [in128_iff] at h
  rw [Bool.eq_iff_iff, decide_eq_true_eq, Bool.not_eq_true', in128_f]
  unfold wh s64
  omega
theorem nx_low {t d : Int} (h : in128 t = true) (d0 : d < 0) (d9 : -9 ≤ d) (k : in128 (t + d) = false) : wh t < 0 := by
  rw [in128_iff] at h
  rw [in128_f] at k
  unfold wh s64
  omega
theorem not_all {l : List UInt8} {i : Nat} (hi : i < l.length) (h : ¬ (48 ≤ (l.getD i 0).toNat ∧ (l.getD i 0).toNat ≤ 57)) : l.all dgB = false := by
  cases e : l.all dgB
  · rfl
  · exact (h (all_get e hi)).elim
theorem all_snocD {l : List UInt8} {i : Nat} (hi : i < l.length) (a : (l.take i).all dgB = true) (h : 48 ≤ (l.getD i 0).toNat ∧ (l.getD i 0).toNat ≤ 57) : (l.take (i + 1)).all dgB = true := by
  have e : l.take (i + 1) = l.take i ++ [l.getD i 0] := by
    rw [List.getD_eq_getElem?_getD, List.getElem?_eq_getElem hi, Option.getD_some, List.take_succ_eq_append_getElem hi]
  rw [e, List.all_append, a]
  unfold dgB
  simp only [List.all_cons, List.all_nil, Bool.and_true, Bool.true_and, Bool.and_eq_true, decide_eq_true_eq]; exact h
theorem rd_next' {l : List UInt8} {i : Nat} (hi : i < l.length) (h : 48 ≤ (l.getD i 0).toNat ∧ (l.getD i 0).toNat ≤ 57) : (rdN (l.take (i + 1)) : Int) = (rdN (l.take i) : Int) * 10 + ((((l.getD i 0).toNat : Nat) : Int) - 48) := by
  rw [rdN_take hi]; omega
theorem rdN_bd {l : List UInt8} {i : Nat} (hl : l.length ≤ 60) (hi : i ≤ l.length) (a : (l.take i).all dgB = true) : (rdN (l.take i) : Int) < 1000000000000000000000000000000000000000000000000000000000000 := by
  have b := rdN_lt (l.take i) a (l.take i).length (Nat.le_refl _)
  rw [List.take_length] at b
  have c : (10 : Nat) ^ (l.take i).length ≤ 10 ^ 60 := Nat.pow_le_pow_right (by decide) (by rw [List.length_take]; omega)
  simp only [Nat.reducePow] at c
  omega
end Go.Proofs.YtngmegnaohmapaaDoor.Am.Sp

set_option linter.unusedVariables false
set_option linter.unusedSimpArgs false
namespace Go.Proofs.YtngmegnaohmapaaDoor.Am.Sp
open Go
/-! A number is read back from its text -/
theorem digs_head : ∀ n : Nat, n ≠ 0 → ((digs n).getD 0 0).toNat ≠ 48 := by
  intro n
  induction n using Nat.strongRecOn with
  | _ n ih =>
    intro hn
    rw [digs, if_neg hn]
    by_cases c : n / 10 = 0
    · rw [c, digs_zero, List.nil_append]
      show (UInt8.ofNat (48 + n % 10)).toNat ≠ 48
      have e : (UInt8.ofNat (48 + n % 10)).toNat = 48 + n % 10 := by simp; omega
      rw [e]; omega
    · have k := ih (n / 10) (by omega) c
      have hl : 0 < (digs (n / 10)).length := List.length_pos_iff.2 (digs_ne c)
      rw [List.getD_eq_getElem?_getD, List.getElem?_append_left hl, ← List.getD_eq_getElem?_getD]
      exact k
theorem digs_hp (n : Nat) : hp45 (digs n) = false := by
  cases h : digs n with
  | nil => rfl
  | cons a t =>
    have k := all_get (digs_dig n) (i := 0) (by rw [h]; simp)
    rw [h] at k
    unfold hp45
    rw [Bool.and_eq_false_iff]; right
    rw [beq_eq_false_iff_ne]
    intro q
    simp only [List.take_succ_cons, List.take_zero, List.cons.injEq, and_true] at q
    rw [q] at k
    exact absurd k.1 (show ¬ 48 ≤ 45 by decide)
theorem numT_hp (a : Int) : hp45 (numT a) = decide (a < 0) := by
  unfold numT
  split
  · rename_i h; subst h; decide
  · split
    · rename_i h; rw [decide_eq_true h]; unfold hp45; simp
    · rename_i h; rw [decide_eq_false h]; exact digs_hp _
theorem numT_bdy {a : Int} (h : a ≠ 0) : bdy (numT a) = digs a.natAbs := by
  unfold bdy
  rw [numT_hp]
  by_cases c : a < 0
  · rw [decide_eq_true c, if_pos rfl, numT_n c rfl]; rfl
  · rw [decide_eq_false c, if_neg (by decide), numT_p (by omega) rfl]
theorem rd_numT {a : Int} (h0 : -170141183460469231731687303715884105728 ≤ a) (h1 : a < 170141183460469231731687303715884105728) : rdV (numT a) = a ∧ rdE (numT a) = 0 := by
  by_cases z : a = 0
  · subst z; rw [numT_z rfl]; decide
  · have hl : ¬ 60 < (numT a).length := by
      have := digs_len 39 a.natAbs (by simp only [Nat.reducePow]; omega)
      by_cases c : a < 0
      · rw [numT_n c rfl]; simp; omega
      · rw [numT_p (by omega) rfl]; omega
    have hb : bdy (numT a) = digs a.natAbs := numT_bdy z
    have hn : a.natAbs ≠ 0 := by omega
    have bad : badT (numT a) = false := by
      unfold badT
      rw [hb, digs_dig]
      have k1 : (digs a.natAbs == []) = false := by rw [beq_eq_false_iff_ne]; exact digs_ne hn
      have k2 : ((((digs a.natAbs).getD 0 0).toNat : Int) == 48) = false := by
        rw [beq_eq_false_iff_ne]; have := digs_head _ hn; omega
      rw [k1, k2]; rfl
    have v : vlT (numT a) = a := by
      unfold vlT
      rw [hb, rd_digs, numT_hp]
      by_cases c : a < 0
      · rw [decide_eq_true c, if_pos rfl]; omega
      · rw [decide_eq_false c, if_neg (by decide)]; omega
    have k : in128 (vlT (numT a)) = true := by rw [v, in128_iff]; omega
    have := rd_in hl bad k
    rw [v] at this; exact this
theorem cmp_eqd (a b : Int) : (cmp a b == 0) = decide (a = b) := by
  unfold cmp
  rw [Bool.eq_iff_iff, beq_iff_eq, decide_eq_true_eq]
  (repeat' split) <;> omega
/-- the quarter of a number's high word beside its low word -/
def qdw (a : Int) : Int := Int.tdiv (wh a) 4 * 18446744073709551616 + wl a
theorem tdiv4 (h : Int) : (0 ≤ h → Int.tdiv h 4 = h / 4) ∧ (h < 0 → Int.tdiv h 4 = -((-h) / 4)) := by
  refine ⟨fun k => Int.tdiv_eq_ediv_of_nonneg k, fun k => ?_⟩
  have : Int.tdiv h 4 = -Int.tdiv (-h) 4 := by rw [Int.neg_tdiv]; omega
  rw [this, Int.tdiv_eq_ediv_of_nonneg (by omega)]
theorem qdw_facts (a : Int) : wh (qdw a) = Int.tdiv (wh a) 4 ∧ wl (qdw a) = wl a ∧ (-42535295865117307932921825928971026432 ≤ qdw a ∧ qdw a < 42535295865117307932921825928971026432) := by
  have t := tdiv4 (wh a)
  have b := wh_bd a
  have l : 0 ≤ wl a ∧ wl a < 18446744073709551616 := by unfold wl; omega
  have tb : -2305843009213693952 ≤ Int.tdiv (wh a) 4 ∧ Int.tdiv (wh a) 4 ≤ 2305843009213693951 := by
    rcases Int.lt_or_le (wh a) 0 with c | c
    · rw [t.2 c]; omega
    · rw [t.1 c]; omega
  have q : qdw a = Int.tdiv (wh a) 4 * 18446744073709551616 + wl a := rfl
  generalize Int.tdiv (wh a) 4 = h at *
  refine ⟨?_, ?_, by omega⟩
  · unfold wh s64; omega
  · unfold wl at *; omega
end Go.Proofs.YtngmegnaohmapaaDoor.Am.Sp

