import Derived.Test.YtndkhgfecnbmnaaRa1
set_option linter.unusedVariables false
set_option linter.unusedSimpArgs false
namespace Go.Proofs.Ytndkhgfecnbmnaa.Am.Sp
open Go
/-! Areas that are drawn; what a ring contains is in its box -/
theorem few_200 {m : Int} {ps : List (Int × Int)} (h : Few m ps) (hm : m ≤ 200) : Few 200 ps := few_le h hm
theorem nat_of {a b : Int} {r : Int} (h0 : a ≤ r) (ha : 0 ≤ a) : ∃ n : Nat, r = (n : Int) := ⟨r.toNat, by omega⟩
theorem sq_good {x y r : Int} (h1 : 1 ≤ r) (h2 : r ≤ 15) (hx : -60 ≤ x ∧ x ≤ 60) (hy : -60 ≤ y ∧ y ≤ 60) : chkF (sqr x y r) = 0 ∧ chkF (hol x y r) = 0 := by
  obtain ⟨n, rfl⟩ : ∃ n : Nat, r = (n : Int) := ⟨r.toNat, by omega⟩
  have h := all_at (f := fun r : Nat => r == 0 || (allap (sqr 0 0 r) 4 && allap (hol 0 0 r) 4)) sq_ring (show n < 16 by omega)
  simp only [Bool.or_eq_true, beq_iff_eq, Bool.and_eq_true] at h
  have h : allap (sqr 0 0 n) 4 = true ∧ allap (hol 0 0 n) 4 = true := h.resolve_left (by omega)
  have f0 := few_sqr (x := 0) (y := 0) (r := (n : Int)) (m := 200) (by omega) (by omega) (by omega)
  have f1 := few_sqr (x := x) (y := y) (r := (n : Int)) (m := 200) (by omega) (by omega) (by omega)
  constructor
  · refine chk_of (by simp [sqr]) (by simp [sqr]) (few_nok (by decide) f1.1) ?_
    rw [sqr_at]; exact allap_move (m := 200) (by decide) f0.1 (by omega) (by omega) (by simp [sqr]) h.1
  · refine chk_of (by simp [hol]) (by simp [hol]) (few_nok (by decide) f1.2) ?_
    rw [hol_at]; exact allap_move (m := 200) (by decide) f0.2 (by omega) (by omega) (by simp [hol]) h.2
section
variable {x y r k j d : Int}
theorem blt6 {a b : Nat} (h : b ≤ a) : Nat.blt a b = false := by
  rcases Bool.eq_false_or_eq_true (Nat.blt a b) with q | q
  · have := Nat.le_of_ble_eq_true q; omega
  · exact q
theorem fit_hs (h1 : 6 ≤ r) (h2 : r ≤ 15) (k1 : 1 ≤ k) (k2 : k ≤ r - 2) (hx : -60 ≤ x ∧ x ≤ 60) (hy : -60 ≤ y ∧ y ≤ 60) : Fit (hol x y k) (sqr x y r) 1 (-1) := by
  obtain ⟨n, rfl⟩ : ∃ n : Nat, r = (n : Int) := ⟨r.toNat, by omega⟩
  obtain ⟨m, rfl⟩ : ∃ m : Nat, k = ((m + 1 : Nat) : Int) := ⟨(k - 1).toNat, by omega⟩
  have h := all_at (f := fun r : Nat => Nat.blt r 6 || (List.range (r - 2)).all fun k : Nat => decide (Fit (hol 0 0 (k + 1 : Nat)) (sqr 0 0 r) 1 (-1))) sq_hol (show n < 16 by omega)
  rw [blt6 (show 6 ≤ n by omega), Bool.false_or] at h
  have h := of_decide_eq_true (all_at (f := fun k : Nat => decide (Fit (hol 0 0 (k + 1 : Nat)) (sqr 0 0 n) 1 (-1))) h (show m < n - 2 by omega))
  rw [hol_at, sqr_at]
  exact fit_move (few_sqr (m := 200) (by omega) (by omega) (by omega)).2 (few_sqr (m := 200) (by omega) (by omega) (by omega)).1 (by omega) (by omega) h
theorem fit_ss (h1 : 6 ≤ r) (h2 : r ≤ 15) (k1 : 1 ≤ j) (k2 : j ≤ r - 4) (hx : -60 ≤ x ∧ x ≤ 60) (hy : -60 ≤ y ∧ y ≤ 60) : Fit (sqr x y j) (sqr x y r) 1 (-1) := by
  obtain ⟨n, rfl⟩ : ∃ n : Nat, r = (n : Int) := ⟨r.toNat, by omega⟩
  obtain ⟨m, rfl⟩ : ∃ m : Nat, j = ((m + 1 : Nat) : Int) := ⟨(j - 1).toNat, by omega⟩
  have h := all_at (f := fun r : Nat => Nat.blt r 6 || (List.range (r - 4)).all fun k : Nat => decide (Fit (sqr 0 0 (k + 1 : Nat)) (sqr 0 0 r) 1 (-1))) sq_sq (show n < 16 by omega)
  rw [blt6 (show 6 ≤ n by omega), Bool.false_or] at h
  have h := of_decide_eq_true (all_at (f := fun k : Nat => decide (Fit (sqr 0 0 (k + 1 : Nat)) (sqr 0 0 n) 1 (-1))) h (show m < n - 4 by omega))
  rw [sqr_at, sqr_at x y n]
  exact fit_move (few_sqr (m := 200) (by omega) (by omega) (by omega)).1 (few_sqr (m := 200) (by omega) (by omega) (by omega)).1 (by omega) (by omega) h
theorem fit_sh (h1 : 3 ≤ k) (h2 : k ≤ 13) (k1 : 1 ≤ j) (k2 : j ≤ k - 2) (hx : -60 ≤ x ∧ x ≤ 60) (hy : -60 ≤ y ∧ y ≤ 60) : Fit (sqr x y j) (hol x y k) 1 (-1) := by
  obtain ⟨n, rfl⟩ : ∃ n : Nat, k = (n : Int) := ⟨k.toNat, by omega⟩
  obtain ⟨m, rfl⟩ : ∃ m : Nat, j = ((m + 1 : Nat) : Int) := ⟨(j - 1).toNat, by omega⟩
  have h := all_at (f := fun r : Nat => Nat.blt r 3 || (List.range (r - 2)).all fun k : Nat => decide (Fit (sqr 0 0 (k + 1 : Nat)) (hol 0 0 r) 1 (-1))) hol_sq (show n < 14 by omega)
  rw [blt6 (show 3 ≤ n by omega), Bool.false_or] at h
  have h := of_decide_eq_true (all_at (f := fun k : Nat => decide (Fit (sqr 0 0 (k + 1 : Nat)) (hol 0 0 n) 1 (-1))) h (show m < n - 2 by omega))
  rw [sqr_at, hol_at x y n]
  exact fit_move (few_sqr (m := 200) (by omega) (by omega) (by omega)).1 (few_sqr (m := 200) (by omega) (by omega) (by omega)).2 (by omega) (by omega) h
theorem fit_by (h1 : 6 ≤ r) (h2 : r ≤ 15) (d1 : 0 ≤ d) (d2 : d ≤ 2) (hx : -60 ≤ x ∧ x ≤ 60) (hy : -60 ≤ y ∧ y ≤ 60) : Fit (sqr (x + r + 3 + d) y 2) (sqr x y r) (-1) (-1) := by
  obtain ⟨n, rfl⟩ : ∃ n : Nat, r = (n : Int) := ⟨r.toNat, by omega⟩
  obtain ⟨m, rfl⟩ : ∃ m : Nat, d = (m : Int) := ⟨d.toNat, by omega⟩
  have h := all_at (f := fun r : Nat => Nat.blt r 6 || (List.range 3).all fun d : Nat => decide (Fit (sqr (r + 3 + d : Nat) 0 2) (sqr 0 0 r) (-1) (-1))) sq_by (show n < 16 by omega)
  rw [blt6 (show 6 ≤ n by omega), Bool.false_or] at h
  have h := of_decide_eq_true (all_at (f := fun d : Nat => decide (Fit (sqr (n + 3 + d : Nat) 0 2) (sqr 0 0 n) (-1) (-1))) h (show m < 3 by omega))
  rw [show x + (n : Int) + 3 + (m : Int) = x + ((n + 3 + m : Nat) : Int) by omega, sqr_move, sqr_at x y n]
  exact fit_move (few_sqr (m := 200) (by omega) (by omega) (by omega)).1 (few_sqr (m := 200) (by omega) (by omega) (by omega)).1 (by omega) (by omega) h
end
/-! ### what a ring contains is in its box -/
def inB (lx ly hx hy : Int) (q : Int × Int) : Prop := (lx ≤ q.1 ∧ q.1 ≤ hx) ∧ (ly ≤ q.2 ∧ q.2 ≤ hy)
theorem on_inB {lx ly hx hy : Int} {a b p : Int × Int} (ha : inB lx ly hx hy a) (hb : inB lx ly hx hy b) (h : onb a.1 a.2 b.1 b.2 p.1 p.2 = true) : inB lx ly hx hy p := by
  rw [← lies_on] at h
  simp only [Bool.and_eq_true, btw_iff] at h
  unfold inB at *; omega
theorem onany_inB {lx ly hx hy : Int} {p : Int × Int} : ∀ (l : List (Int × Int)) (a : Int × Int), inB lx ly hx hy a → (∀ q ∈ l, inB lx ly hx hy q) → onany p a l = true → inB lx ly hx hy p
  | [], a, _, _, h => by simp [onany] at h
  | b :: r, a, ha, hl, h => by
    unfold onany at h
    rw [Bool.or_eq_true] at h
    rcases h with h | h
    · exact on_inB ha (hl b (by simp)) h
    · exact onany_inB r b (hl b (by simp)) (fun q hq => hl q (by simp [hq])) h
def blw (p q : Int × Int) : Bool := decide (q.2 < p.2)
theorem cR_right {lx ly hx hy : Int} {a b p : Int × Int} (ha : inB lx ly hx hy a) (hb : inB lx ly hx hy b) (h : hx < p.1 ∨ hy < p.2 ∨ p.2 < ly) : cR p a b = false := by
  rcases Bool.eq_false_or_eq_true (cR p a b) with q | q
  · exfalso
    unfold cR at q
    rw [crR_iff] at q
    unfold inB at *
    rcases h with h | h | h
    · rcases q with ⟨_, ⟨q1, q2⟩, q3⟩ | ⟨_, ⟨q1, q2⟩, q3⟩
      · have m1 : (a.2 - p.2) * (b.1 - p.1) ≤ 0 := Int.mul_nonpos_of_nonneg_of_nonpos q2 (by omega)
        have m2 : 0 < (a.1 - p.1) * (b.2 - p.2) := Int.mul_pos_of_neg_of_neg (by omega) q1
        omega
      · have m1 : (a.1 - p.1) * (b.2 - p.2) ≤ 0 := Int.mul_nonpos_of_nonpos_of_nonneg (by omega) q2
        have m2 : 0 < (a.2 - p.2) * (b.1 - p.1) := Int.mul_pos_of_neg_of_neg q1 (by omega)
        omega
    · omega
    · omega
  · exact q
theorem cR_left {lx ly hx hy : Int} {a b p : Int × Int} (ha : inB lx ly hx hy a) (hb : inB lx ly hx hy b) (h : p.1 < lx) : cR p a b = (blw p a != blw p b) := by
  have e : cR p a b = true ↔ (blw p a != blw p b) = true := by
    unfold cR blw
    rw [crR_iff]
    unfold inB at *
    have key : (decide (a.2 < p.2) != decide (b.2 < p.2)) = true ↔ ((b.2 < p.2 ∧ p.2 ≤ a.2) ∨ (a.2 < p.2 ∧ p.2 ≤ b.2)) := by
      by_cases c1 : a.2 < p.2 <;> by_cases c2 : b.2 < p.2 <;> simp [c1, c2] <;> omega
    rw [key]
    constructor
    · rintro (⟨_, ⟨q1, q2⟩, _⟩ | ⟨_, ⟨q1, q2⟩, _⟩)
      · exact .inl (by omega)
      · exact .inr (by omega)
    · rintro (q | q)
      · refine .inl ⟨by omega, by omega, ?_⟩
        have m1 : 0 ≤ (a.2 - p.2) * (b.1 - p.1) := Int.mul_nonneg (by omega) (by omega)
        have m2 : (a.1 - p.1) * (b.2 - p.2) < 0 := Int.mul_neg_of_pos_of_neg (by omega) (by omega)
        omega
      · refine .inr ⟨by omega, by omega, ?_⟩
        have m1 : 0 ≤ (a.1 - p.1) * (b.2 - p.2) := Int.mul_nonneg (by omega) (by omega)
        have m2 : (a.2 - p.2) * (b.1 - p.1) < 0 := Int.mul_neg_of_neg_of_pos (by omega) (by omega)
        omega
  rw [Bool.eq_iff_iff]; exact e
theorem xor_none {f : Int × Int → Int × Int → Bool} {B : Int × Int → Prop} (hf : ∀ a b, B a → B b → f a b = false) : ∀ (l : List (Int × Int)) (a : Int × Int), B a → (∀ q ∈ l, B q) → xorp f a l = false
  | [], a, _, _ => rfl
  | b :: r, a, ha, hl => by unfold xorp; rw [hf a b ha (hl b (by simp)), xor_none hf r b (hl b (by simp)) (fun q hq => hl q (by simp [hq]))]; rfl
theorem xor_ends {f : Int × Int → Int × Int → Bool} {g : Int × Int → Bool} {B : Int × Int → Prop} (hf : ∀ a b, B a → B b → f a b = (g a != g b)) : ∀ (l : List (Int × Int)) (a : Int × Int), B a → (∀ q ∈ l, B q) → xorp f a l = (g a != g (lastp a l))
  | [], a, _, _ => by simp [xorp, lastp]
  | b :: r, a, ha, hl => by
    unfold xorp lastp
    rw [hf a b ha (hl b (by simp)), xor_ends hf r b (hl b (by simp)) (fun q hq => hl q (by simp [hq]))]
    cases g a <;> cases g b <;> cases g (lastp b r) <;> rfl
theorem has_inB {ps : List (Int × Int)} {x y lx ly hx hy : Int} (hb : ∀ q ∈ ps, inB lx ly hx hy (limp q)) (h : 0 ≤ hasF ps x y 0 (-1)) : inB lx ly hx hy (x, y) := by
  cases ps with
  | nil => rw [hasF_end (by simp)] at h; omega
  | cons a t =>
    rw [hasF_eq] at h
    have ha : inB lx ly hx hy (limp a) := hb a (by simp)
    have hl : ∀ q ∈ t.map limp ++ [limp a], inB lx ly hx hy q := by
      intro q hq
      rcases List.mem_append.1 hq with k | k
      · obtain ⟨z, hz, rfl⟩ := List.mem_map.1 k; exact hb z (by simp [hz])
      · rw [List.mem_singleton.1 k]; exact ha
    unfold hasv at h
    split at h
    · rename_i c; exact onany_inB _ _ ha hl c
    · split at h
      · rename_i c
        show (lx ≤ x ∧ x ≤ hx) ∧ (ly ≤ y ∧ y ≤ hy)
        refine Decidable.byContradiction fun n => ?_
        have n' : hx < x ∨ (hy < y ∨ y < ly) ∨ x < lx := by omega
        rcases n' with n' | n' | n'
        · rw [xor_none (B := inB lx ly hx hy) (fun a b ha hb => cR_right ha hb (.inl n')) _ _ ha hl] at c; cases c
        · rw [xor_none (B := inB lx ly hx hy) (fun a b ha hb => cR_right ha hb (.inr n')) _ _ ha hl] at c; cases c
        · rw [xor_ends (B := inB lx ly hx hy) (g := blw (x, y)) (fun a b ha hb => cR_left ha hb n') _ _ ha hl, lastp_snoc] at c
          simp at c
      · omega
/-! ### the box, the count -/
def bxr (ps : List (Int × Int)) : Nat → Int × Int × Int × Int
  | 0 => (0, 0, 0, 0)
  | k + 1 => if k = 0 then (mn (ps.getD k (0, 0)).1 (ps.getD k (0, 0)).1, mn (ps.getD k (0, 0)).2 (ps.getD k (0, 0)).2, mx (ps.getD k (0, 0)).1 (ps.getD k (0, 0)).1, mx (ps.getD k (0, 0)).2 (ps.getD k (0, 0)).2)
    else (mn (bxr ps k).1 (ps.getD k (0, 0)).1, mn (bxr ps k).2.1 (ps.getD k (0, 0)).2, mx (bxr ps k).2.2.1 (ps.getD k (0, 0)).1, mx (bxr ps k).2.2.2 (ps.getD k (0, 0)).2)
theorem bxr_0 {ps : List (Int × Int)} {k : Nat} (h : k = 0) : bxr ps (k + 1) = (mn (ps.getD k (0, 0)).1 (ps.getD k (0, 0)).1, mn (ps.getD k (0, 0)).2 (ps.getD k (0, 0)).2, mx (ps.getD k (0, 0)).1 (ps.getD k (0, 0)).1, mx (ps.getD k (0, 0)).2 (ps.getD k (0, 0)).2) := if_pos h
theorem bxr_n {ps : List (Int × Int)} {k : Nat} (h : ¬ k = 0) : bxr ps (k + 1) = (mn (bxr ps k).1 (ps.getD k (0, 0)).1, mn (bxr ps k).2.1 (ps.getD k (0, 0)).2, mx (bxr ps k).2.2.1 (ps.getD k (0, 0)).1, mx (bxr ps k).2.2.2 (ps.getD k (0, 0)).2) := if_neg h
theorem mn_both (a b : Int) : mn a b ≤ a ∧ mn a b ≤ b := by unfold mn; split <;> omega
theorem mx_both (a b : Int) : a ≤ mx a b ∧ b ≤ mx a b := by unfold mx; split <;> omega
theorem bxr_in (ps : List (Int × Int)) : ∀ k j, j < k → inB (bxr ps k).1 (bxr ps k).2.1 (bxr ps k).2.2.1 (bxr ps k).2.2.2 (ps.getD j (0, 0))
  | 0, j, h => by omega
  | k + 1, j, h => by
    by_cases c : k = 0
    · rw [bxr_0 c, show j = k by omega]
      have a := mn_both (ps.getD k (0, 0)).1 (ps.getD k (0, 0)).1; have b := mn_both (ps.getD k (0, 0)).2 (ps.getD k (0, 0)).2
      have d := mx_both (ps.getD k (0, 0)).1 (ps.getD k (0, 0)).1; have e := mx_both (ps.getD k (0, 0)).2 (ps.getD k (0, 0)).2
      unfold inB; simp only; omega
    · rw [bxr_n c]
      have a := mn_both (bxr ps k).1 (ps.getD k (0, 0)).1; have b := mn_both (bxr ps k).2.1 (ps.getD k (0, 0)).2
      have d := mx_both (bxr ps k).2.2.1 (ps.getD k (0, 0)).1; have e := mx_both (bxr ps k).2.2.2 (ps.getD k (0, 0)).2
      rcases Nat.eq_or_lt_of_le (show j ≤ k by omega) with rfl | q
      · unfold inB; simp only; omega
      · have := bxr_in ps k j q
        unfold inB at *; simp only; omega
theorem in_abox {R ps : List (Int × Int)} {px py m : Int} (hm : m ≤ 1048576) (hR : ∀ q ∈ R, q ∈ ps) (hf : Few m R) (hx : -1048576 ≤ px ∧ px ≤ 1048576) (hy : -1048576 ≤ py ∧ py ≤ 1048576) (h : 0 ≤ hasF R (lim 1048576 px) (lim 1048576 py) 0 (-1)) :
    inbox (bxr ps ps.length).1 (bxr ps ps.length).2.1 (bxr ps ps.length).2.2.1 (bxr ps ps.length).2.2.2 px py = true := by
  rw [lim_id hx.1 hx.2, lim_id hy.1 hy.2] at h
  have := has_inB (lx := (bxr ps ps.length).1) (ly := (bxr ps ps.length).2.1) (hx := (bxr ps ps.length).2.2.1) (hy := (bxr ps ps.length).2.2.2) (fun q hq => by
    have f := few_mem hf hq
    rw [limp_few (by omega)]
    obtain ⟨j, hj, e⟩ := List.mem_iff_getElem.1 (hR q hq)
    have := bxr_in ps ps.length j hj
    rw [getD_lt hj, e] at this; exact this) h
  unfold inB at this
  simp only at this
  unfold inbox
  simp only [Bool.and_eq_true, decide_eq_true_eq]; omega
def ahF : List Int → Int → Int
  | [], out => out
  | h :: t, out => if (h == 0) = true then 0 else if (h == 1) = true then ahF t (0 - out) else ahF t out
theorem has_cases (ps : List (Int × Int)) (x y : Int) : hasF ps x y 0 (-1) = 0 ∨ hasF ps x y 0 (-1) = 1 ∨ hasF ps x y 0 (-1) = -1 := by
  cases ps with
  | nil => rw [hasF_end (by simp)]; omega
  | cons a t => rw [hasF_eq]; unfold hasv; (repeat' split) <;> omega
end Go.Proofs.Ytndkhgfecnbmnaa.Am.Sp

set_option linter.unusedVariables false
set_option linter.unusedSimpArgs false
namespace Go.Proofs.Ytndkhgfecnbmnaa.Am.Sp
open Go
/-! The area that is asked about first -/
def bg1 : List (Int × Int) := [(0, 0), (4, 0), (4, 4), (0, 4)]
def bg2 : List (Int × Int) := [(1, 1), (2, 1), (2, 2), (1, 2)]
theorem bg_fit : Fit bg2 bg1 1 (-1) := by decide +kernel
theorem bg_few : Few 40 bg1 ∧ Few 40 bg2 := ⟨few_of (by decide) (by unfold bg1; simp only [List.mem_cons, List.not_mem_nil, or_false, forall_eq_or_imp, forall_eq]; decide), few_of (by decide) (by unfold bg2; simp only [List.mem_cons, List.not_mem_nil, or_false, forall_eq_or_imp, forall_eq]; decide)⟩
theorem bg_chk : chkF bg1 = 0 ∧ chkF bg2 = 0 := ⟨chk_of (by decide) (by decide) (few_nok (by decide) bg_few.1) (by decide +kernel), chk_of (by decide) (by decide) (few_nok (by decide) bg_few.2) (by decide +kernel)⟩
theorem bg_tw : twF bg1 1 0 = 32 ∧ twF bg2 1 0 = 2 := ⟨(twF_area bg_few.1 (by decide)).1.trans (by decide +kernel), (twF_area bg_few.2 (by decide)).1.trans (by decide +kernel)⟩
/-! ### how many rings have a point -/
def cnt1 (hs : List Int) : Nat := (hs.filter (· == 1)).length
def tlF (hs : List Int) (many : Int) (on : Bool) : Prop := many = ((cnt1 hs : Nat) : Int) ∧ on = hs.any (· == 0)
theorem ahF_val : ∀ (hs : List Int) (out : Int), ahF hs out = if hs.any (· == 0) = true then 0 else if cnt1 hs % 2 = 0 then out else 0 - out
  | [], out => by simp [ahF, cnt1]
  | h :: t, out => by
    unfold ahF
    by_cases h0 : (h == 0) = true
    · rw [if_pos h0, if_pos (by simp [h0])]
    · rw [if_neg h0]
      have ha : (h :: t).any (· == 0) = t.any (· == 0) := by rw [List.any_cons]; simp only [Bool.not_eq_true] at h0; rw [h0, Bool.false_or]
      rw [ha]
      by_cases h1 : (h == 1) = true
      · have hc : cnt1 (h :: t) = cnt1 t + 1 := by unfold cnt1; rw [List.filter_cons_of_pos (by simpa using h1)]; rfl
        rw [if_pos h1, ahF_val t, hc]
        (repeat' split) <;> omega
      · have hc : cnt1 (h :: t) = cnt1 t := by unfold cnt1; rw [List.filter_cons_of_neg (by simpa using h1)]
        rw [if_neg h1, ahF_val t, hc]
theorem tl_on {hs : List Int} {many : Int} {on : Bool} (h : tlF hs many on) : (on == (ahF hs (-1) == 0)) = true := by
  rw [h.2, ahF_val]
  cases hs.any (· == 0) with
  | true => rfl
  | false =>
    rw [if_neg (by decide)]
    split <;> rfl
theorem tl_par {hs : List Int} {many : Int} {on : Bool} (h : tlF hs many on) (ho : on = false) : ((ahF hs (-1) == 1) == (Int.tmod many 2 == 1)) = true := by
  rw [h.2] at ho
  rw [h.1, ahF_val, ho, if_neg (by decide), show Int.tmod ((cnt1 hs : Nat) : Int) 2 = ((cnt1 hs % 2 : Nat) : Int) from rfl]
  rcases (show cnt1 hs % 2 = 0 ∨ cnt1 hs % 2 = 1 by omega) with e | e
  · rw [e, if_pos rfl]; rfl
  · rw [e, if_neg (by decide)]; rfl
theorem ahF_some {hs : List Int} (h : 0 ≤ ahF hs (-1)) : ∃ x ∈ hs, 0 ≤ x := by
  rw [ahF_val] at h
  by_cases h0 : hs.any (· == 0) = true
  · obtain ⟨x, hx, e⟩ := List.any_eq_true.1 h0
    exact ⟨x, hx, by simp at e; omega⟩
  · rw [if_neg h0] at h
    by_cases hc : cnt1 hs % 2 = 0
    · rw [if_pos hc] at h; omega
    · unfold cnt1 at hc
      cases hl : hs.filter (· == 1) with
      | nil => rw [hl] at hc; exact absurd rfl hc
      | cons a r =>
        have : a ∈ hs.filter (· == 1) := by rw [hl]; simp
        have := List.mem_filter.1 this
        exact ⟨a, this.1, by have := this.2; simp at this; omega⟩
end Go.Proofs.Ytndkhgfecnbmnaa.Am.Sp

