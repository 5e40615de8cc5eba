import Derived.Test.YtngmegnaohmapaaDoorTx3
import Derived.Test.YtngmegnaohmapaaDoorNc7
import Derived.Lib.Bytealg
import Derived.Lib.ItoaNum
set_option linter.unusedVariables false
set_option linter.unusedSimpArgs false
namespace Go.Proofs.YtngmegnaohmapaaDoor.Am.Sp
open Go
/-! Fractions, written as texts -/
def c47 (l : List UInt8) : Bool := l.any (· == 47)
def ct1 (l : List UInt8) : List UInt8 := l.takeWhile (· != 47)
def ct2 (l : List UInt8) : List UInt8 := (l.dropWhile (· != 47)).drop 1
def ix47 (l : List UInt8) : Int := if c47 l = true then ((ct1 l).length : Int) else -1
theorem ix_index : ∀ l : List UInt8, Lib.indexByte l 47 = ix47 l
  | [] => rfl
  | b :: l => by
    have ih := ix_index l
    unfold Lib.indexByte
    rw [ih]
    unfold ix47 c47 ct1 at *
    rw [List.any_cons, List.takeWhile_cons]
    by_cases hb : (b == 47) = true
    · have hb2 : (b != 47) = false := by simp only [bne, hb]; rfl
      rw [hb, hb2]; rfl
    · have hb1 : (b == 47) = false := by simpa using hb
      have hb2 : (b != 47) = true := by simp only [bne, hb1]; rfl
      rw [hb1, hb2]
      rw [Bool.false_or, if_neg (show ¬ (false = true) by decide), if_pos rfl, List.length_cons]
      by_cases hc : (l.any (· == 47)) = true
      · rw [if_pos hc, if_pos hc, if_neg (by rw [beq_iff_eq]; omega)]; omega
      · rw [if_neg hc, if_neg hc]; rfl
theorem ct1_len (l : List UInt8) : (ct1 l).length ≤ l.length := (List.takeWhile_sublist _).length_le
theorem ct_app (l : List UInt8) : ct1 l ++ l.dropWhile (· != 47) = l := List.takeWhile_append_dropWhile
theorem take_ct1 (l : List UInt8) : l.take (ct1 l).length = ct1 l := by
  have h : ∀ a b : List UInt8, (a ++ b).take a.length = a := fun a b => by rw [List.take_append_of_le_length (Nat.le_refl _), List.take_length]
  have := h (ct1 l) (l.dropWhile (· != 47))
  rwa [ct_app] at this
theorem drop_ct2 (l : List UInt8) : l.drop ((ct1 l).length + 1) = ct2 l := by
  unfold ct2
  rw [← List.drop_drop]
  congr 1
  have h : ∀ a b : List UInt8, (a ++ b).drop a.length = b := fun a b => by rw [List.drop_append_of_le_length (Nat.le_refl _), List.drop_length, List.nil_append]
  have := h (ct1 l) (l.dropWhile (· != 47))
  rwa [ct_app] at this
theorem ct2_len (l : List UInt8) : (ct2 l).length ≤ l.length := by
  rw [← drop_ct2, List.length_drop]; omega
theorem c47_no {l : List UInt8} (h : c47 l = false) : ct1 l = l ∧ ct2 l = [] := by
  induction l with
  | nil => exact ⟨rfl, rfl⟩
  | cons b l ih =>
    unfold c47 at h ih
    rw [List.any_cons, Bool.or_eq_false_iff] at h
    have hb2 : (b != 47) = true := by simp only [bne, h.1]; rfl
    have := ih h.2
    unfold ct1 ct2 at *
    rw [List.takeWhile_cons, List.dropWhile_cons, hb2]
    exact ⟨by simp only [if_true]; rw [this.1], by simpa using this.2⟩
theorem c47_yes {l : List UInt8} (h : c47 l = true) : (ct1 l).length < l.length := by
  induction l with
  | nil => cases h
  | cons b l ih =>
    unfold c47 at h ih
    unfold ct1 at *
    rw [List.takeWhile_cons]
    rw [List.any_cons] at h
    by_cases hb : (b == 47) = true
    · rw [show (b != 47) = false by simp only [bne, hb]; rfl]; simp
    · have hb1 : (b == 47) = false := by simpa using hb
      rw [hb1, Bool.false_or] at h
      rw [show (b != 47) = true by simp only [bne, hb1]; rfl]
      simp only [if_true, List.length_cons]; have := ih h; omega
theorem c47_lt (l : List UInt8) : decide ((ct1 l).length < l.length) = c47 l := by
  cases h : c47 l with
  | true => exact decide_eq_true (c47_yes h)
  | false => exact decide_eq_false (by rw [(c47_no h).1]; omega)
theorem ix_yes {l : List UInt8} (h : ix47 l ≥ 0) : c47 l = true ∧ ix47 l = ((ct1 l).length : Int) := by
  unfold ix47 at *
  split at h
  · rename_i q; exact ⟨q, by rw [if_pos q]⟩
  · omega
theorem ix_no {l : List UInt8} (h : ¬ ix47 l ≥ 0) : c47 l = false := by
  unfold ix47 at *
  split at h
  · omega
  · rename_i q; simpa using q
theorem ix_bd (l : List UInt8) : -1 ≤ ix47 l ∧ ix47 l ≤ (l.length : Int) := by
  have := ct1_len l
  unfold ix47; split <;> omega
theorem ct1_step {l : List UInt8} {i : Nat} (hi : i < l.length) : (ct1 (l.drop i)).length = if ((((l.getD i 0).toNat : Nat) : Int) == 47) = true then 0 else (ct1 (l.drop (i + 1))).length + 1 := by
  have e : l.drop i = l.getD i 0 :: l.drop (i + 1) := by
    rw [List.drop_eq_getElem_cons hi]; simp [List.getD_eq_getElem?_getD, List.getElem?_eq_getElem hi]
  rw [e]
  unfold ct1
  rw [List.takeWhile_cons]
  have k : ((((l.getD i 0).toNat : Nat) : Int) == 47) = (l.getD i 0 == 47) := by
    rw [Bool.eq_iff_iff, beq_iff_eq, beq_iff_eq, ← UInt8.toNat_inj]
    show _ ↔ _ = 47
    omega
  rw [k]
  by_cases hb : (l.getD i 0 == 47) = true
  · rw [hb, show (l.getD i 0 != 47) = false by simp only [bne, hb]; rfl]; rfl
  · have hb1 : (l.getD i 0 == 47) = false := by simpa using hb
    rw [hb1, show (l.getD i 0 != 47) = true by simp only [bne, hb1]; rfl]; rfl
theorem itoa_num (n : Int) : Lib.itoa n = numT n := by
  have k : ∀ u : Nat, u ≠ 0 → Lib.decDigits u = digs u := by
    intro u
    induction u using Nat.strongRecOn with
    | ind u ih =>
      intro hu
      rw [Lib.decDigits, digs, if_neg hu]
      split
      · rename_i h
        rw [show u / 10 = 0 by omega, digs_zero, List.nil_append, show u % 10 = u by omega]
      · rename_i h
        rw [ih (u / 10) (by omega) (by omega)]
  unfold Lib.itoa numT
  by_cases h0 : n = 0
  · subst h0; rw [if_neg (by decide), if_pos rfl, Lib.decDigits]; rfl
  · rw [if_neg h0]
    split
    · rw [k _ (by omega)]; rfl
    · rw [show n.toNat = n.natAbs by omega, k _ (by omega)]
/-- the integer of a text -/
def igE (l : List UInt8) : Int := if rdE l = 0 then shE (rdV l) else rdE l
def igV (l : List UInt8) : Int := if rdE l = 0 then shN (rdV l) else 0
theorem ig_bad {l : List UInt8} (h : rdE l ≠ 0) : igV l = 0 ∧ igE l = rdE l := by unfold igV igE; rw [if_neg h, if_neg h]; exact ⟨rfl, rfl⟩
theorem ig_ok {l : List UInt8} (h : rdE l = 0) : igV l = shN (rdV l) ∧ igE l = shE (rdV l) := by unfold igV igE; rw [if_pos h, if_pos h]; exact ⟨rfl, rfl⟩
theorem ig_in {l : List UInt8} (h : rdE l = 0) (k : in64 (rdV l) = true) : igV l = rdV l ∧ igE l = 0 := by rw [(ig_ok h).1, (ig_ok h).2]; unfold shN shE; rw [if_pos k, if_pos k]; exact ⟨rfl, rfl⟩
theorem ig_out {l : List UInt8} (h : rdE l = 0) (k : in64 (rdV l) = false) : igV l = 0 ∧ igE l = 2 := by rw [(ig_ok h).1, (ig_ok h).2]; unfold shN shE; rw [k]; exact ⟨rfl, rfl⟩
theorem ig_bd (l : List UInt8) : -9223372036854775808 ≤ igV l ∧ igV l ≤ 9223372036854775807 := by
  unfold igV shN in64
  repeat' split
  · rename_i h; rw [Bool.and_eq_true, decide_eq_true_eq, decide_eq_true_eq] at h; exact h
  · omega
  · omega
/-- what a text says: an error ahead of the quotient, and the quotient -/
def frD (l : List UInt8) : List UInt8 := if c47 l = true then ct2 l else [49]
def frP (l : List UInt8) : Int := if 60 < l.length then 2 else if igE (ct1 l) ≠ 0 then igE (ct1 l) else if igE (frD l) ≠ 0 then igE (frD l) else if igV (frD l) < 0 then 15 else 0
def frN (l : List UInt8) : Int := if frP l = 0 then dvn ((igV (ct1 l) : Int) : Rat) ((igV (frD l) : Int) : Rat) else 0
def frM (l : List UInt8) : Int := if frP l = 0 then dvd ((igV (ct1 l) : Int) : Rat) ((igV (frD l) : Int) : Rat) else 0
def frE (l : List UInt8) : Int := if frP l = 0 then dve ((igV (ct1 l) : Int) : Rat) ((igV (frD l) : Int) : Rat) else frP l
theorem fr_bad {l : List UInt8} {e : Int} (h : frP l = e) (he : e ≠ 0) : frN l = 0 ∧ frM l = 0 ∧ frE l = e := by
  unfold frN frM frE; rw [h, if_neg he, if_neg he, if_neg he]; exact ⟨rfl, rfl, rfl⟩
theorem fr_ok {l : List UInt8} {a b : Int} (h : frP l = 0) (ha : igV (ct1 l) = a) (hb : igV (frD l) = b) : frN l = dvn ((a : Int) : Rat) ((b : Int) : Rat) ∧ frM l = dvd ((a : Int) : Rat) ((b : Int) : Rat) ∧ frE l = dve ((a : Int) : Rat) ((b : Int) : Rat) := by
  unfold frN frM frE; rw [h, if_pos rfl, if_pos rfl, if_pos rfl, ha, hb]; exact ⟨rfl, rfl, rfl⟩
theorem fr_p1 {l : List UInt8} (h : 60 < l.length) : frP l = 2 := by unfold frP; rw [if_pos h]
theorem fr_p2 {l : List UInt8} (h : ¬ 60 < l.length) (k : igE (ct1 l) ≠ 0) : frP l = igE (ct1 l) := by unfold frP; rw [if_neg h, if_pos k]
theorem fr_p3 {l d : List UInt8} (h : ¬ 60 < l.length) (k : igE (ct1 l) = 0) (e : frD l = d) (j : igE d ≠ 0) : frP l = igE d := by unfold frP; rw [if_neg h, if_neg (by rw [k]; exact fun q => q rfl), e, if_pos j]
theorem fr_p4 {l d : List UInt8} (h : ¬ 60 < l.length) (k : igE (ct1 l) = 0) (e : frD l = d) (j : igE d = 0) (g : igV d < 0) : frP l = 15 := by
  unfold frP; rw [if_neg h, if_neg (by rw [k]; exact fun q => q rfl), e, if_neg (by rw [j]; exact fun q => q rfl), if_pos g]
theorem fr_p5 {l d : List UInt8} (h : ¬ 60 < l.length) (k : igE (ct1 l) = 0) (e : frD l = d) (j : igE d = 0) (g : ¬ igV d < 0) : frP l = 0 := by
  unfold frP; rw [if_neg h, if_neg (by rw [k]; exact fun q => q rfl), e, if_neg (by rw [j]; exact fun q => q rfl), if_neg g]
theorem frD_yes {l : List UInt8} (h : c47 l = true) : frD l = ct2 l := if_pos h
theorem frD_no {l : List UInt8} (h : c47 l = false) : frD l = [49] := by unfold frD; rw [h]; rfl
theorem ig_one : igV [49] = 1 ∧ igE [49] = 0 := by
  have := rd_numT (a := 1) (by decide) (by decide)
  rw [show numT 1 = [49] by unfold numT; rw [if_neg (by decide), if_neg (by decide)]; rw [show (1 : Int).natAbs = 1 from rfl, digs, if_neg (by decide), digs_zero]; rfl] at this
  have k := ig_in this.2 (by rw [this.1]; rfl)
  rw [this.1] at k; exact k
theorem ig_num {a : Int} (h0 : -9223372036854775808 ≤ a) (h1 : a ≤ 9223372036854775807) : igV (numT a) = a ∧ igE (numT a) = 0 := by
  have := rd_numT (a := a) (by omega) (by omega)
  have k := ig_in this.2 (by rw [this.1]; unfold in64; rw [decide_eq_true h0, decide_eq_true h1]; rfl)
  rw [this.1] at k; exact k
/-- the text of a fraction -/
def frT (n d : Int) : List UInt8 := if fd n d = 1 then numT (fn n d) else numT (fn n d) ++ ([47] ++ numT (fd n d))
theorem frT_one {n d : Int} (h : fd n d = 1) : frT n d = numT (fn n d) := if_pos h
theorem frT_two {n d : Int} (h : fd n d ≠ 1) : frT n d = numT (fn n d) ++ ([47] ++ numT (fd n d)) := if_neg h
theorem num_no47 (a : Int) : c47 (numT a) = false := by
  have k : ∀ n, c47 (digs n) = false := fun n => by
    have := digs_dig n
    unfold c47
    rw [List.any_eq_false]
    rw [List.all_eq_true] at this
    intro b hb q
    have e : b = 47 := by simpa using q
    subst e
    exact absurd (this 47 hb) (by decide)
  unfold numT
  repeat' split
  · rfl
  · unfold c47 at *; rw [List.any_append, k]; rfl
  · exact k _
theorem ct_append (a b : List UInt8) (h : c47 a = false) : ct1 (a ++ ([47] ++ b)) = a ∧ ct2 (a ++ ([47] ++ b)) = b ∧ c47 (a ++ ([47] ++ b)) = true := by
  induction a with
  | nil => exact ⟨rfl, rfl, rfl⟩
  | cons x a ih =>
    unfold c47 at h ih
    rw [List.any_cons, Bool.or_eq_false_iff] at h
    have hb2 : (x != 47) = true := by simp only [bne, h.1]; rfl
    have := ih h.2
    unfold ct1 ct2 c47 at *
    rw [List.cons_append, List.takeWhile_cons, List.dropWhile_cons, hb2, List.any_cons]
    exact ⟨by simp only [if_true]; rw [this.1], by simpa using this.2.1, by rw [this.2.2, Bool.or_true]⟩
theorem one_dig {n : Int} (h0 : 0 ≤ n) (h1 : n ≤ 9223372036854775807) :
    ((dgt n 0 == dgt 1 0) && ((dgt n 1 == dgt 1 1) && ((dgt n 2 == dgt 1 2) && ((dgt n 3 == dgt 1 3) && ((dgt n 4 == dgt 1 4) && ((dgt n 5 == dgt 1 5) && ((dgt n 6 == dgt 1 6) && true))))))) = decide (n = 1) := eq_dig (by omega) (by omega)
/-- small good fractions are read back from their texts -/
theorem fr_numb {n d : Int} (hg : gd n d = true) (h0 : -1000 ≤ n) (h1 : n ≤ 1000) (h2 : d ≤ 1000) : frN (frT n d) = n ∧ frM (frT n d) = d ∧ frE (frT n d) = 0 := by
  have hf : fn n d = n := if_pos hg
  have hd : fd n d = d := if_pos hg
  have hp : 0 < d := by unfold gd at hg; rw [Bool.and_eq_true, decide_eq_true_eq] at hg; exact hg.1
  have cop : Nat.gcd n.natAbs d.natAbs = 1 := by unfold gd at hg; simp only [Bool.and_eq_true, decide_eq_true_eq] at hg; exact hg.2.2
  have l3 : ∀ x : Int, -1000 ≤ x → x ≤ 1000 → (numT x).length ≤ 5 := fun x a b => by
    have := digs_len 4 x.natAbs (by simp only [Nat.reducePow]; omega)
    unfold numT; repeat' split
    · simp
    · rw [List.length_append]; simp; omega
    · omega
  have key : frD (frT n d) = numT d ∧ ct1 (frT n d) = numT n ∧ ¬ 60 < (frT n d).length := by
    by_cases h : d = 1
    · rw [frT_one (by rw [hd]; exact h), hf]
      have q := num_no47 n
      refine ⟨?_, (c47_no q).1, by have := l3 n h0 h1; omega⟩
      rw [frD_no q, h]
      unfold numT; rw [if_neg (by decide), if_neg (by decide)]; rw [show (1 : Int).natAbs = 1 from rfl, digs, if_neg (by decide), digs_zero]; rfl
    · rw [frT_two (by rw [hd]; exact h), hf, hd]
      have q := ct_append (numT n) (numT d) (num_no47 n)
      refine ⟨by rw [frD_yes q.2.2]; exact q.2.1, q.1, ?_⟩
      have := l3 n h0 h1; have := l3 d (by omega) h2
      simp only [List.length_append, List.length_cons, List.length_nil]; omega
  obtain ⟨k1, k2, k3⟩ := key
  have a := ig_num (a := n) (by omega) (by omega)
  have b := ig_num (a := d) (by omega) (by omega)
  have p := fr_p5 k3 (by rw [k2]; exact a.2) k1 b.2 (by rw [b.1]; omega)
  have r := fr_ok (a := n) (b := d) p (by rw [k2]; exact a.1) (by rw [k1]; exact b.1)
  have hd0 : ((d : Int) : Rat) ≠ 0 := by
    intro q; have := Rat.intCast_inj.1 (q.trans (Rat.intCast_zero).symm); omega
  have y := dv_yes (a := ((n : Int) : Rat)) hd0
  have e : ((n : Int) : Rat) / ((d : Int) : Rat) = rv n d := by unfold rv; rw [hf, hd, Rat.divInt_eq_div]
  rw [e] at y
  have z := qn_rv (a := n) (b := d) (by omega) (by omega) (by omega)
  rw [r.1, r.2.1, r.2.2, y.1, y.2.1, y.2.2]
  refine ⟨z.1.trans hf, z.2.1.trans hd, ?_⟩
  exact z.2.2
end Go.Proofs.YtngmegnaohmapaaDoor.Am.Sp

