import Derived.Test.YtomnkdlfmjdckaaM7
import Derived.Test.YtomnkdlfmjdckaaM6
import Derived.Test.YtomnkdlfmjdckaaProg
import Derived.Test.YtomnkdlfmjdckaaM2
import Derived.Test.YtomnkdlfmjdckaaM5
import Derived.Test.YtomnkdlfmjdckaaM3
import Derived.Shelf.SlSortCmp.WholeK
import Derived.Shelf.SlicesG.Cmp
import Derived.Shelf.SlGeneric
import Derived.Ground.SlsfProg
import Derived.Ground.SlgcProg
import Derived.Shelf.Small.Bits
set_option linter.unusedVariables false
set_option linter.unusedSimpArgs false
namespace Go.Proofs.Ytomnkdlfmjdckaa.Am.Sp
open Go
/-- a linear function that is positive at all points but a -/
def Ahd (d a q : Int × Int) : Int := d.1 * (q.2 - a.2) - d.2 * (q.1 - a.1)
structure Scn (d a x : Int × Int) (l : List (Int × Int)) : Prop where
  ok : (x = a ∧ ∀ q ∈ l, q = a) ∨ (x ≠ a ∧ x ∈ l ∧ ∀ q ∈ l, 0 ≤ crP a x q ∧ (crP a x q = 0 → dsq a q ≤ dsq a x))
/-- two points ahead on one line from a: the linear function tells them apart -/
theorem line_pts {d a x b : Int × Int} (h0 : crP a x b = 0) : Ahd d a b * (x.1 - a.1) = Ahd d a x * (b.1 - a.1) ∧ Ahd d a b * (x.2 - a.2) = Ahd d a x * (b.2 - a.2) := by
  have e1 : Ahd d a b * (x.1 - a.1) - Ahd d a x * (b.1 - a.1) = d.1 * -(-(crP a x b)) := by unfold Ahd crP crs; grind
  have e2 : Ahd d a b * (x.2 - a.2) - Ahd d a x * (b.2 - a.2) = d.2 * -(-(crP a x b)) := by unfold Ahd crP crs; grind
  rw [h0] at e1 e2
  simp only [Int.neg_zero, Int.mul_zero] at e1 e2
  omega
end Go.Proofs.Ytomnkdlfmjdckaa.Am.Sp
set_option linter.unusedVariables false
set_option linter.unusedSimpArgs false
namespace Go.Proofs.Ytomnkdlfmjdckaa.Am.Sp
open Go
end Go.Proofs.Ytomnkdlfmjdckaa.Am.Sp
set_option linter.unusedVariables false
set_option linter.unusedSimpArgs false
namespace Go.Proofs.Ytomnkdlfmjdckaa.Am.Sp
open Go
theorem ds_lt {C : List (Int × Int)} (h : Ds C) {i j : Nat} (hij : i < j) (hj : j < C.length) : lxP (C.getD j (0, 0)) (C.getD i (0, 0)) := by
  rw [getD_lt hj, getD_lt (by omega)]
  exact List.pairwise_iff_getElem.1 h.pair i j (by omega) hj hij
theorem srd_two {ps : List (Int × Int)} (c : 2 ≤ (hullF ps).length) : 2 ≤ (srd ps).length := by
  rcases Nat.lt_or_ge (srd ps).length 2 with g | g
  · rw [hullF_one g] at c; omega
  · exact g
theorem up_lt {S L U : List (Int × Int)} (h : Hul S L U) : ∀ {j : Nat}, 0 < j → j < U.length → lxP (U.getD 0 (0, 0)) (U.getD j (0, 0))
  | 1, _, hj => h.upD hj
  | j + 2, _, hj => (up_lt h (by omega) (by omega : j + 1 < U.length)).trans (h.upD hj)
/-- the first corner is the least of all points -/
theorem hull_least {ps : List (Int × Int)} (h1 : 1 ≤ ps.length) :
    (∀ q ∈ ps, q = (hullF ps).getD 0 (0, 0) ∨ lxP ((hullF ps).getD 0 (0, 0)) q) ∧ ∀ i, 0 < i → i < (hullF ps).length → lxP ((hullF ps).getD 0 (0, 0)) ((hullF ps).getD i (0, 0)) := by
  have hl := hull_len h1
  rcases Nat.lt_or_ge (hullF ps).length 2 with c | c
  · have e : (hullF ps).length = 1 := by omega
    exact ⟨fun q hq => .inl (hull_one e hq), fun i h0 hi => by omega⟩
  · have g := srd_two c
    obtain ⟨q, q2⟩ := hul_srd g
    have eh := hullF_two g
    have hp := q.posU
    rw [eh] at c ⊢
    generalize stk (srd ps) (srd ps).length = L at *
    generalize stk (srd ps).reverse (srd ps).reverse.length = U at *
    have e0 : (ring2 L U).getD 0 (0, 0) = L.getD (L.length - 1) (0, 0) := by rw [q.ring_at (by omega), cnr, if_pos (by omega), Nat.sub_zero]
    rw [e0]
    refine ⟨fun p hp => (q.bot).2 p (srd_mem.2 hp), fun i h0 hi => ?_⟩
    rw [q.ring_at hi, cnr]
    split
    · exact ds_lt q.low.ds (by omega) (by omega)
    · rw [← q.utop]; rw [ring2_len] at hi; exact up_lt q (by omega) (by omega)
/-- from the first corner on, later corners lie further to the left -/
theorem fan_left {ps : List (Int × Int)} (h3 : 2 < (hullF ps).length) : ∀ {j : Nat}, 1 ≤ j → j + 1 < (hullF ps).length → 0 < crP ((hullF ps).getD 0 (0, 0)) ((hullF ps).getD j (0, 0)) ((hullF ps).getD (j + 1) (0, 0))
  | 0, h, _ => by omega
  | 1, _, hj => by
    have t := hull_turn h3 (i := 0) (by omega)
    rw [Nat.mod_eq_of_lt (by omega), Nat.mod_eq_of_lt (by omega)] at t
    exact t
  | j + 2, _, hj => by
    have ih := fan_left h3 (j := j + 1) (by omega) (by omega)
    obtain ⟨n, hn⟩ : ∃ n, (hullF ps).length = n := ⟨_, rfl⟩
    have hin : ∀ {i}, i < (hullF ps).length → (hullF ps).getD i (0, 0) ∈ ps := fun hi => hull_sub (mem_getD hi)
    have e1 := hull_edge (ps := ps) (by omega) (i := j + 2) (by omega) (hin (i := 0) (by omega))
    have t1 := hull_turn h3 (i := j + 1) (by omega)
    have t2 := hull_turn h3 (i := j + 2) (by omega)
    have e2 := hull_edge (ps := ps) (by omega) (i := j + 3) (by omega) (hin (i := 0) (by omega))
    have t0 := hull_turn h3 (i := n - 1) (by omega)
    have g0 := fun i (hi : i < (hullF ps).length) => hull_edge (ps := ps) (by omega) (i := n - 1) (by omega) (hin hi)
    have g1 := fun i (hi : i < (hullF ps).length) => hull_edge (ps := ps) (by omega) (i := 0) (by omega) (hin hi)
    rw [hn] at t1 t2 e1 e2 t0
    rw [show (n - 1 + 1) % n = 0 by rw [show n - 1 + 1 = n by omega, Nat.mod_self], show (n - 1 + 2) % n = 1 by rw [show n - 1 + 2 = 1 + n by omega, Nat.add_mod_right, Nat.mod_eq_of_lt (by omega)]] at t0
    simp only [hn] at g0 g1
    have g0' := fun i hi => by have := g0 i hi; rwa [show (n - 1 + 1) % n = 0 by rw [show n - 1 + 1 = n by omega, Nat.mod_self]] at this
    have g1' := fun i hi => by have := g1 i hi; rwa [show (0 + 1) % n = 1 by rw [Nat.mod_eq_of_lt (by omega)]] at this
    rw [Nat.mod_eq_of_lt (show j + 1 + 1 < n by omega), Nat.mod_eq_of_lt (show j + 1 + 2 < n by omega)] at t1
    rw [Nat.mod_eq_of_lt (show j + 2 + 1 < n by omega)] at t2 e1
    rw [show (j + 2 + 2) % n = (j + 3 + 1) % n from rfl] at t2
    have a1 := g0' (j + 2) (by omega)
    have a2 := g1' (j + 2) (by omega)
    have b1 := g0' (j + 3) (by omega)
    have b2 := g1' (j + 3) (by omega)
    have hne : (hullF ps).getD (j + 2) (0, 0) ≠ (hullF ps).getD 0 (0, 0) := fun e => by
      have := (hull_least (ps := ps) (by have := List.length_pos_of_mem (hin (i := 0) (by omega)); omega)).2 (j + 2) (by omega) (by omega)
      rw [e] at this; exact this.irr
    have hnx : (hullF ps).getD (j + 3) (0, 0) ≠ (hullF ps).getD 0 (0, 0) := fun e => by
      have := (hull_least (ps := ps) (by have := List.length_pos_of_mem (hin (i := 0) (by omega)); omega)).2 (j + 3) (by omega) (by omega)
      rw [e] at this; exact this.irr
    rw [show j + 1 + 1 = j + 2 from rfl] at *
    rw [show j + 1 + 2 = j + 3 from rfl] at t1
    rw [show j + 2 + 1 = j + 3 from rfl] at *
    generalize (hullF ps).getD ((j + 3 + 1) % n) (0, 0) = Y at *
    generalize (hullF ps).getD (j + 3) (0, 0) = X at *
    generalize (hullF ps).getD (j + 2) (0, 0) = B at *
    generalize (hullF ps).getD (j + 1) (0, 0) = P at *
    generalize (hullF ps).getD (n - 1) (0, 0) = Z at *
    generalize (hullF ps).getD 1 (0, 0) = W at *
    generalize (hullF ps).getD 0 (0, 0) = A at *
    clear g0 g1 g0' g1' hin
    -- A first, P, B, X, Y in order; Z before A, W behind A
    have r1 := crP_rot B X A
    have r2 := crP_rot X A B
    apply Classical.byContradiction; intro hn2
    have h0 : crP A B X = 0 := by omega
    have hF : ∀ q, 0 ≤ crP Z A q → 0 ≤ crP A W q → q ≠ A → 0 < Ahd (W.1 - Z.1, W.2 - Z.2) A q := fun q i1 i2 hq => by
      have hA : Ahd (W.1 - Z.1, W.2 - Z.2) A q = crP Z A q + crP A W q := by unfold Ahd crP crs; grind
      rw [hA]
      apply Classical.byContradiction; intro hn
      have z1 : crP Z A q = 0 := by omega
      have z2 : crP A W q = 0 := by omega
      have l1 : (q.1 - A.1) * crP Z A W = (W.1 - A.1) * crP Z A q - (A.1 - Z.1) * crP A W q := by unfold crP crs; grind
      have l2 : (q.2 - A.2) * crP Z A W = (W.2 - A.2) * crP Z A q - (A.2 - Z.2) * crP A W q := by unfold crP crs; grind
      rw [z1, z2] at l1 l2
      simp only [Int.mul_zero, Int.sub_zero] at l1 l2
      have y1 := (Int.mul_eq_zero.1 l1).resolve_right (by omega)
      have y2 := (Int.mul_eq_zero.1 l2).resolve_right (by omega)
      exact hq (Prod.ext (by omega) (by omega))
    have fB := hF B a1 a2 hne
    have fX := hF X b1 b2 hnx
    obtain ⟨l1, l2⟩ := line_pts (d := (W.1 - Z.1, W.2 - Z.2)) (a := A) (x := X) (b := B) (by have := crP_flip A B X; omega)
    generalize Ahd (W.1 - Z.1, W.2 - Z.2) A B = FB at *
    generalize Ahd (W.1 - Z.1, W.2 - Z.2) A X = FX at *
    have k1 : FB * crP P B X = (FB - FX) * crP A P B := by unfold crP crs; grind
    have k2 : FB * crP B X Y = (FX - FB) * crP A B Y := by unfold crP crs; grind
    have k3 : FB * crP X Y A = FX * crP A B Y := by unfold crP crs; grind
    have n1 := Int.mul_pos fB t1
    have n2 := Int.mul_pos fB t2
    have n3 := mulnnH (Int.le_of_lt fB) e2
    have c1 : FX < FB := by
      apply Classical.byContradiction; intro hn
      have := Int.mul_nonpos_of_nonpos_of_nonneg (show FB - FX ≤ 0 by omega) (Int.le_of_lt ih)
      omega
    have c2 : crP A B Y < 0 := by
      apply Classical.byContradiction; intro hn
      have := Int.mul_nonpos_of_nonpos_of_nonneg (show FX - FB ≤ 0 by omega) (show 0 ≤ crP A B Y by omega)
      omega
    have := Int.mul_neg_of_pos_of_neg fX c2
    omega
end Go.Proofs.Ytomnkdlfmjdckaa.Am.Sp
set_option linter.unusedVariables false
set_option linter.unusedSimpArgs false
namespace Go.Proofs.Ytomnkdlfmjdckaa.Am.Sp
open Go
def Fan (h : List (Int × Int)) (p : Int × Int) (i : Nat) : Prop :=
  0 ≤ crP (h.getD 0 (0, 0)) (h.getD (i - 1) (0, 0)) p ∧ 0 ≤ crP (h.getD (i - 1) (0, 0)) (h.getD i (0, 0)) p ∧ 0 ≤ crP (h.getD i (0, 0)) (h.getD 0 (0, 0)) p
theorem hasL_get {h : List (Int × Int)} {x y : Int} : ∀ (k i : Nat), i + k = h.length → hasL h x y i = true → ∀ j, i ≤ j → j < h.length → 0 ≤ crs (h.getD j (0, 0)).1 (h.getD j (0, 0)).2 (h.getD ((j + 1) % h.length) (0, 0)).1 (h.getD ((j + 1) % h.length) (0, 0)).2 x y
  | 0, i, e, _, j, h1, h2 => by omega
  | k + 1, i, e, hf, j, h1, h2 => by
    rw [hasL, if_pos (by omega)] at hf
    split at hf
    · cases hf
    · rename_i c
      by_cases g : i = j
      · subst g; omega
      · exact hasL_get k (i + 1) (by omega) hf j (by omega) h2
theorem fan_no {h : List (Int × Int)} {p : Int × Int} (h3 : 2 < h.length) (hh : hasH h p.1 p.2 = true) : ∃ i, 2 ≤ i ∧ i < h.length ∧ Fan h p i := by
  rw [hasH_3 (by omega)] at hh
  have g := hasL_get h.length 0 (by omega) hh
  have hc : ∀ i, 2 ≤ i → i < h.length → (∃ k, 2 ≤ k ∧ k ≤ i ∧ Fan h p k) ∨ 0 < crP (h.getD 0 (0, 0)) (h.getD i (0, 0)) p := by
    intro i h2
    induction i with
    | zero => omega
    | succ i ih =>
      intro hi
      have e := g i (by omega) (by omega)
      rw [Nat.mod_eq_of_lt (by omega)] at e
      have prev : (∃ k, 2 ≤ k ∧ k ≤ i ∧ Fan h p k) ∨ 0 ≤ crP (h.getD 0 (0, 0)) (h.getD i (0, 0)) p := by
        by_cases c : 2 ≤ i
        · exact (ih c (by omega)).imp id Int.le_of_lt
        · have : i = 1 := by omega
          subst this
          have := g 0 (by omega) (by omega)
          rw [Nat.mod_eq_of_lt (by omega)] at this
          exact .inr this
      rcases prev with ⟨k, k1, k2, k3⟩ | q
      · exact .inl ⟨k, k1, by omega, k3⟩
      · by_cases c : 0 < crP (h.getD 0 (0, 0)) (h.getD (i + 1) (0, 0)) p
        · exact .inr c
        · refine .inl ⟨i + 1, h2, Nat.le_refl _, ?_, ?_, ?_⟩
          · exact q
          · exact e
          · have := crP_rot (h.getD (i + 1) (0, 0)) (h.getD 0 (0, 0)) p
            have f2 := crP_flip (h.getD 0 (0, 0)) p (h.getD (i + 1) (0, 0))
            omega
  have e := g (h.length - 1) (by omega) (by omega)
  rw [show h.length - 1 + 1 = h.length by omega, Nat.mod_self] at e
  rcases hc (h.length - 1) (by omega) (by omega) with ⟨k, k1, k2, k3⟩ | q
  · exact ⟨k, k1, by omega, k3⟩
  · exfalso
    have e' : 0 ≤ crP (h.getD (h.length - 1) (0, 0)) (h.getD 0 (0, 0)) p := e
    have := crP_rot (h.getD (h.length - 1) (0, 0)) (h.getD 0 (0, 0)) p
    have f2 := crP_flip (h.getD 0 (0, 0)) p (h.getD (h.length - 1) (0, 0))
    omega
/-- what is not negative at the corners is not negative at the points -/
theorem aff_all {ps : List (Int × Int)} {u v w : Int} (h1 : 1 ≤ ps.length) (hc : ∀ i, i < (hullF ps).length → 0 ≤ u * ((hullF ps).getD i (0, 0)).1 + v * ((hullF ps).getD i (0, 0)).2 + w) {q : Int × Int} (hq : q ∈ ps) : 0 ≤ u * q.1 + v * q.2 + w := by
  have hl := hull_len h1
  rcases Nat.lt_or_ge 2 (hullF ps).length with h3 | h3
  · obtain ⟨n, hn⟩ : ∃ n, (hullF ps).length = n := ⟨_, rfl⟩
    obtain ⟨m, hm, hl⟩ := least_at (fun i => u * ((hullF ps).getD i (0, 0)).1 + v * ((hullF ps).getD i (0, 0)).2 + w) n (by omega)
    have hi : (m + (n - 1)) % n < n := Nat.mod_lt _ (by omega)
    have t := hull_turn h3 (i := (m + (n - 1)) % n) (by omega)
    have e1 := hull_edge (ps := ps) (by omega) (i := (m + (n - 1)) % n) (by omega) hq
    have e2 := hull_edge (ps := ps) (by omega) (i := m) (by omega) hq
    rw [hn] at t e1 e2
    have m1 : ((m + (n - 1)) % n + 1) % n = m := by rw [Nat.mod_add_mod, show m + (n - 1) + 1 = m + n by omega, Nat.add_mod_right, Nat.mod_eq_of_lt hm]
    have m2 : ((m + (n - 1)) % n + 2) % n = (m + 1) % n := by rw [Nat.mod_add_mod, show m + (n - 1) + 2 = m + 1 + n by omega, Nat.add_mod_right]
    rw [m1, m2] at t
    rw [m1] at e1
    have l1 := hl _ hi
    have l2 := hl ((m + 1) % n) (Nat.mod_lt _ (by omega))
    have l0 := hc m (by omega)
    generalize (hullF ps).getD ((m + (n - 1)) % n) (0, 0) = U at *
    generalize (hullF ps).getD ((m + 1) % n) (0, 0) = V at *
    generalize (hullF ps).getD m (0, 0) = M at *
    clear hl hc
    have e : ((u * q.1 + v * q.2 + w) - (u * M.1 + v * M.2 + w)) * crP U M V = ((u * V.1 + v * V.2 + w) - (u * M.1 + v * M.2 + w)) * crP U M q + ((u * U.1 + v * U.2 + w) - (u * M.1 + v * M.2 + w)) * crP M V q := by unfold crP crs; grind
    generalize u * q.1 + v * q.2 + w = gq at *
    generalize u * M.1 + v * M.2 + w = gM at *
    generalize u * V.1 + v * V.2 + w = gV at *
    generalize u * U.1 + v * U.2 + w = gU at *
    have n1 := mulnnH (show 0 ≤ gV - gM by omega) e1
    have n2 := mulnnH (show 0 ≤ gU - gM by omega) e2
    apply Classical.byContradiction
    intro hn
    have := Int.mul_neg_of_neg_of_pos (show gq - gM < 0 by omega) t
    omega
  · rcases Nat.lt_or_ge 1 (hullF ps).length with g | g
    · have e : (hullF ps).length = 2 := by omega
      obtain ⟨k1, k2, k3, k4⟩ := hull_two e hq
      have ga := hc 0 (by omega)
      have gb := hc 1 (by omega)
      generalize (hullF ps).getD 0 (0, 0) = a at *
      generalize (hullF ps).getD 1 (0, 0) = b at *
      clear hc
      have e1 : (b.1 - a.1) * (u * q.1 + v * q.2 + w) = (b.1 - q.1) * (u * a.1 + v * a.2 + w) + (q.1 - a.1) * (u * b.1 + v * b.2 + w) + v * crP a b q := by unfold crP crs; grind
      have e2 : (b.2 - a.2) * (u * q.1 + v * q.2 + w) = (b.2 - q.2) * (u * a.1 + v * a.2 + w) + (q.2 - a.2) * (u * b.1 + v * b.2 + w) - u * crP a b q := by unfold crP crs; grind
      rw [k2, Int.mul_zero] at e1 e2
      rcases k3 with rfl | k3
      · exact ga
      rcases k4 with rfl | k4
      · exact gb
      generalize u * q.1 + v * q.2 + w = gq at *
      generalize u * a.1 + v * a.2 + w = gA at *
      generalize u * b.1 + v * b.2 + w = gB at *
      unfold lxP at k1 k3 k4
      by_cases c : a.1 < b.1
      · have n1 := mulnnH (show 0 ≤ b.1 - q.1 by omega) ga
        have n2 := mulnnH (show 0 ≤ q.1 - a.1 by omega) gb
        apply Classical.byContradiction; intro hn
        have := Int.mul_neg_of_pos_of_neg (show 0 < b.1 - a.1 by omega) (show gq < 0 by omega)
        omega
      · have n1 := mulnnH (show 0 ≤ b.2 - q.2 by omega) ga
        have n2 := mulnnH (show 0 ≤ q.2 - a.2 by omega) gb
        apply Classical.byContradiction; intro hn
        have := Int.mul_neg_of_pos_of_neg (show 0 < b.2 - a.2 by omega) (show gq < 0 by omega)
        omega
    · have e : (hullF ps).length = 1 := by omega
      rw [hull_one e hq]; exact hc 0 (by omega)
end Go.Proofs.Ytomnkdlfmjdckaa.Am.Sp
set_option linter.unusedVariables false
set_option linter.unusedSimpArgs false
namespace Go.Proofs.Ytomnkdlfmjdckaa.Am.Sp
open Go
section
variable {pts : List (Int × Int)} {ax ay x y : Int} {k : Nat}
end
section
variable {h : List (Int × Int)} {x y : Int} {i : Nat}
end
end Go.Proofs.Ytomnkdlfmjdckaa.Am.Sp

set_option linter.unusedVariables false
set_option linter.unusedSimpArgs false
namespace Go.Proofs.Ytomnkdlfmjdckaa.Am.Sp
open Go
/-- from a point outside, all corners lie on one side -/
theorem dir_ex {ps : List (Int × Int)} {p : Int × Int} (h1 : 1 ≤ ps.length) (hx : hasH (hullF ps) p.1 p.2 = false) : ∃ d, ∀ q ∈ hullF ps, 0 < Ahd d p q := by
  have hl := hull_len h1
  have at_ : ∀ {q}, q ∈ hullF ps → ∃ i, i < (hullF ps).length ∧ (hullF ps).getD i (0, 0) = q := fun {q} hq => by
    obtain ⟨i, hi, e⟩ := List.mem_iff_getElem.1 hq
    exact ⟨i, hi, by rw [getD_lt hi, e]⟩
  have sq2 : ∀ a b : Int, a * a + b * b ≤ 0 → a = 0 ∧ b = 0 := fun a b h => by
    have n1 := sqr_nonneg a
    have n2 := sqr_nonneg b
    have z1 : a * a = 0 := by omega
    have z2 : b * b = 0 := by omega
    exact ⟨by rcases Int.mul_eq_zero.1 z1 with k | k <;> exact k, by rcases Int.mul_eq_zero.1 z2 with k | k <;> exact k⟩
  rcases Nat.lt_or_ge 2 (hullF ps).length with c | c
  · rw [hasH_3 (by omega)] at hx
    obtain ⟨j, hj, hn⟩ := hasL_ex (hullF ps).length 0 (by omega) hx
    refine ⟨(((hullF ps).getD ((j + 1) % (hullF ps).length) (0, 0)).1 - ((hullF ps).getD j (0, 0)).1, ((hullF ps).getD ((j + 1) % (hullF ps).length) (0, 0)).2 - ((hullF ps).getD j (0, 0)).2), fun q hq => ?_⟩
    have e := hull_edge (ps := ps) (by omega) hj (hull_sub hq)
    generalize (hullF ps).getD ((j + 1) % (hullF ps).length) (0, 0) = V at *
    generalize (hullF ps).getD j (0, 0) = U at *
    have k : Ahd (V.1 - U.1, V.2 - U.2) p q = crP U V q - crs U.1 U.2 V.1 V.2 p.1 p.2 := by unfold Ahd crP crs; grind
    omega
  · have dotd : ∀ u q : Int × Int, Ahd (u.2, -u.1) p q = u.1 * (q.1 - p.1) + u.2 * (q.2 - p.2) := fun u q => by unfold Ahd; grind
    rcases Nat.lt_or_ge 1 (hullF ps).length with g | g
    · have e : (hullF ps).length = 2 := by omega
      rw [hasH_2 e] at hx
      have hin : ∀ q ∈ hullF ps, q = (hullF ps).getD 0 (0, 0) ∨ q = (hullF ps).getD 1 (0, 0) := fun q hq => by
        obtain ⟨i, hi, ei⟩ := at_ hq
        rcases Nat.lt_or_ge i 1 with k | k
        · left; rw [← ei, show i = 0 by omega]
        · right; rw [← ei, show i = 1 by omega]
      generalize (hullF ps).getD 0 (0, 0) = a at *
      generalize (hullF ps).getD 1 (0, 0) = b at *
      have lin : ∀ s : Int, Ahd (s * (b.1 - a.1), s * (b.2 - a.2)) p a = -s * crP a b p ∧ Ahd (s * (b.1 - a.1), s * (b.2 - a.2)) p b = -s * crP a b p := fun s => by
        constructor <;> (unfold Ahd crP crs; grind)
      rcases Int.lt_trichotomy (crP a b p) 0 with k | k | k
      · refine ⟨(1 * (b.1 - a.1), 1 * (b.2 - a.2)), fun q hq => ?_⟩
        rcases hin q hq with rfl | rfl
        · rw [(lin 1).1]; omega
        · rw [(lin 1).2]; omega
      · refine ⟨((a.2 - p.2), -(a.1 - p.1)), fun q hq => ?_⟩
        have hd := dotd (a.1 - p.1, a.2 - p.2) q
        simp only [] at hd
        rw [hd]
        have ho : ¬ dot p.1 p.2 a.1 a.2 b.1 b.2 ≤ 0 := fun o => by
          have k' : crs a.1 a.2 b.1 b.2 p.1 p.2 = 0 := k
          unfold onb at hx
          rw [k', decide_eq_true o] at hx
          revert hx; decide
        rcases hin q hq with rfl | rfl
        · apply Classical.byContradiction; intro hn
          obtain ⟨z1, z2⟩ := sq2 (q.1 - p.1) (q.2 - p.2) (by omega)
          apply ho; unfold dot; rw [z1, z2]; simp
        · unfold dot at ho; omega
      · refine ⟨(-1 * (b.1 - a.1), -1 * (b.2 - a.2)), fun q hq => ?_⟩
        rcases hin q hq with rfl | rfl
        · rw [(lin (-1)).1]; omega
        · rw [(lin (-1)).2]; omega
    · have e : (hullF ps).length = 1 := by omega
      rw [hasH_1 e] at hx
      have hin : ∀ q ∈ hullF ps, q = (hullF ps).getD 0 (0, 0) := fun q hq => by
        obtain ⟨i, hi, ei⟩ := at_ hq
        rw [← ei, show i = 0 by omega]
      generalize (hullF ps).getD 0 (0, 0) = a at *
      refine ⟨((a.2 - p.2), -(a.1 - p.1)), fun q hq => ?_⟩
      rw [hin q hq]
      have hd := dotd (a.1 - p.1, a.2 - p.2) a
      simp only [] at hd
      rw [hd]
      apply Classical.byContradiction; intro hn
      obtain ⟨z1, z2⟩ := sq2 (a.1 - p.1) (a.2 - p.2) (by omega)
      exact eqb_ne hx (Prod.ext (by omega) (by omega))
end Go.Proofs.Ytomnkdlfmjdckaa.Am.Sp
set_option linter.unusedVariables false
set_option linter.unusedSimpArgs false
namespace Go.Proofs.Ytomnkdlfmjdckaa.Am.Sp
open Go
end Go.Proofs.Ytomnkdlfmjdckaa.Am.Sp

set_option linter.unusedVariables false
set_option linter.unusedSimpArgs false
namespace Go.Proofs.Ytomnkdlfmjdckaa.Am.Sp
open Go
theorem off_side {p d : Int × Int} {a b : Int × Int} (fa : 0 < Ahd d p a) (fb : 0 < Ahd d p b) : onb a.1 a.2 b.1 b.2 p.1 p.2 = false := by
  cases h : onb a.1 a.2 b.1 b.2 p.1 p.2
  · rfl
  · exfalso
    obtain ⟨h0, h1⟩ := (onb_iff ..).1 h
    have c0 : crP p a b = 0 := by rw [← crP_rot, ← crP_rot] ; exact h0
    have e1 : Ahd d p b * (a.1 - p.1) - Ahd d p a * (b.1 - p.1) = d.1 * crP p a b := by unfold Ahd crP crs; grind
    have e2 : Ahd d p b * (a.2 - p.2) - Ahd d p a * (b.2 - p.2) = d.2 * crP p a b := by unfold Ahd crP crs; grind
    rw [c0, Int.mul_zero] at e1 e2
    have s : Ahd d p b * ((a.1 - p.1) * (a.1 - p.1) + (a.2 - p.2) * (a.2 - p.2)) = Ahd d p a * dot p.1 p.2 a.1 a.2 b.1 b.2 := by
      unfold dot
      generalize Ahd d p b = B at *
      generalize Ahd d p a = A at *
      have k1 : B * (a.1 - p.1) = A * (b.1 - p.1) := by omega
      have k2 : B * (a.2 - p.2) = A * (b.2 - p.2) := by omega
      calc B * ((a.1 - p.1) * (a.1 - p.1) + (a.2 - p.2) * (a.2 - p.2)) = (B * (a.1 - p.1)) * (a.1 - p.1) + (B * (a.2 - p.2)) * (a.2 - p.2) := by grind
        _ = (A * (b.1 - p.1)) * (a.1 - p.1) + (A * (b.2 - p.2)) * (a.2 - p.2) := by rw [k1, k2]
        _ = _ := by grind
    have n1 := Int.mul_nonpos_of_nonneg_of_nonpos (Int.le_of_lt fa) h1
    have s1 := sqr_nonneg (a.1 - p.1)
    have s2 := sqr_nonneg (a.2 - p.2)
    have z : ¬ 0 < (a.1 - p.1) * (a.1 - p.1) + (a.2 - p.2) * (a.2 - p.2) := fun g => by
      have := Int.mul_pos fb g; omega
    have z1 : (a.1 - p.1) * (a.1 - p.1) = 0 := by omega
    have z2 : (a.2 - p.2) * (a.2 - p.2) = 0 := by omega
    have y1 : a.1 - p.1 = 0 := by rcases Int.mul_eq_zero.1 z1 with k | k <;> exact k
    have y2 : a.2 - p.2 = 0 := by rcases Int.mul_eq_zero.1 z2 with k | k <;> exact k
    unfold Ahd at fa; rw [y1, y2] at fa; simp at fa
theorem on_side {p d : Int × Int} : ∀ (l : List (Int × Int)) (a : Int × Int), 0 < Ahd d p a → (∀ q ∈ l, 0 < Ahd d p q) → onany p a l = false
  | [], a, _, _ => rfl
  | b :: r, a, fa, h => by
    rw [onany, off_side fa (h b (by simp)), Bool.false_or]
    exact on_side r b (h b (by simp)) (fun q hq => h q (List.mem_cons_of_mem _ hq))
def lowB (p q : Int × Int) : Bool := decide (q.2 < p.2)
theorem cR_iff (p a b : Int × Int) : cR p a b = true ↔ (b.2 < a.2 ∧ (b.2 < p.2 ∧ p.2 ≤ a.2) ∧ crP p a b < 0) ∨ (a.2 ≤ b.2 ∧ (a.2 < p.2 ∧ p.2 ≤ b.2) ∧ 0 < crP p a b) := by
  unfold cR
  rw [crR_iff]
  have e1 : (a.2 - p.2) * (b.1 - p.1) - (a.1 - p.1) * (b.2 - p.2) = -crP p a b := by unfold crP crs; grind
  have e2 : (a.1 - p.1) * (b.2 - p.2) - (a.2 - p.2) * (b.1 - p.1) = crP p a b := by unfold crP crs; grind
  rw [e1, e2]
  omega
theorem cR_side {p d a b : Int × Int} (fa : 0 < Ahd d p a) (fb : 0 < Ahd d p b) : cR p a b = if d.2 < 0 then (lowB p a != lowB p b) else false := by
  rw [Bool.eq_iff_iff, cR_iff]
  have e : -d.2 * crP p a b = (b.2 - p.2) * Ahd d p a - (a.2 - p.2) * Ahd d p b := by unfold crP crs Ahd; grind
  generalize crP p a b = c at *
  split
  · rename_i hd
    unfold lowB
    have up : a.2 < p.2 → p.2 ≤ b.2 → 0 < c := fun h1 h2 => by
      have n1 := mulnnH (show 0 ≤ b.2 - p.2 by omega) (Int.le_of_lt fa)
      have n2 := Int.mul_neg_of_neg_of_pos (show a.2 - p.2 < 0 by omega) fb
      apply Classical.byContradiction; intro hn
      have := Int.mul_nonpos_of_nonneg_of_nonpos (show 0 ≤ -d.2 by omega) (show c ≤ 0 by omega)
      omega
    have dn : b.2 < p.2 → p.2 ≤ a.2 → c < 0 := fun h1 h2 => by
      have n1 := mulnnH (show 0 ≤ a.2 - p.2 by omega) (Int.le_of_lt fb)
      have n2 := Int.mul_neg_of_neg_of_pos (show b.2 - p.2 < 0 by omega) fa
      apply Classical.byContradiction; intro hn
      have := mulnnH (show 0 ≤ -d.2 by omega) (show 0 ≤ c by omega)
      omega
    by_cases h1 : a.2 < p.2 <;> by_cases h2 : b.2 < p.2 <;> simp only [h1, h2, decide_true, decide_false] <;> simp
    · omega
    · have := up h1 (by omega); omega
    · have := dn h2 (by omega); omega
  · rename_i hd
    simp only [Bool.false_eq_true, iff_false]
    rintro (⟨h1, ⟨h2, h3⟩, h4⟩ | ⟨h1, ⟨h2, h3⟩, h4⟩)
    · have n1 := mulnnH (show 0 ≤ a.2 - p.2 by omega) (Int.le_of_lt fb)
      have n2 := Int.mul_neg_of_neg_of_pos (show b.2 - p.2 < 0 by omega) fa
      have := mulnnH (show 0 ≤ d.2 by omega) (show 0 ≤ -c by omega)
      have e3 : -d.2 * c = d.2 * -c := by grind
      omega
    · have n1 := mulnnH (show 0 ≤ b.2 - p.2 by omega) (Int.le_of_lt fa)
      have n2 := Int.mul_neg_of_neg_of_pos (show a.2 - p.2 < 0 by omega) fb
      have := mulnnH (show 0 ≤ d.2 by omega) (show 0 ≤ c by omega)
      have e3 : -d.2 * c = -(d.2 * c) := by grind
      omega
theorem xor_side {p d : Int × Int} : ∀ (l : List (Int × Int)) (a : Int × Int), 0 < Ahd d p a → (∀ q ∈ l, 0 < Ahd d p q) → xorp (cR p) a l = if d.2 < 0 then (lowB p a != lowB p (lastp a l)) else false
  | [], a, _, _ => by simp [xorp, lastp]
  | b :: r, a, fa, h => by
    have ih := xor_side r b (h b (by simp)) (fun q hq => h q (List.mem_cons_of_mem _ hq))
    rw [xorp, lastp, ih, cR_side fa (h b (by simp))]
    split
    · cases lowB p a <;> cases lowB p b <;> cases lowB p (lastp b r) <;> rfl
    · rfl
/-- all corners on one side of a line through the point: it is outside -/
theorem has_side {ps : List (Int × Int)} {p d : Int × Int} (h1 : 1 ≤ ps.length) (hs : ps.map limp = ps) (hF : ∀ q ∈ ps, 0 < Ahd d p q) : hasF ps p.1 p.2 0 (-1) = -1 := by
  rw [hasv_lim h1 hs]
  have h0 : ps.getD 0 (0, 0) ∈ ps := mem_getD h1
  have hall : ∀ q ∈ ps.drop 1 ++ [ps.getD 0 (0, 0)], 0 < Ahd d p q := fun q hq => by
    rcases List.mem_append.1 hq with k | k
    · exact hF q (List.mem_of_mem_drop k)
    · rw [List.mem_singleton.1 k]; exact hF _ h0
  unfold hasv
  rw [on_side _ _ (hF _ h0) hall, xor_side _ _ (hF _ h0) hall, lastp_snoc]
  simp
/-- what is outside the hull is outside the ring -/
theorem has_hull_out {ps : List (Int × Int)} {p : Int × Int} {m : Int} (hm : 0 ≤ m ∧ m ≤ 1048576) (hf : Few m ps) (h1 : 1 ≤ ps.length) (hx : hasH (hullF ps) p.1 p.2 = false) : hasF ps p.1 p.2 0 (-1) = -1 ∧ hasF (hullF ps) p.1 p.2 0 (-1) = -1 := by
  obtain ⟨d, hF⟩ := dir_ex h1 hx
  have hfh : Few m (hullF ps) := few_sub hm.1 hf (fun q hq => hull_sub hq)
  refine ⟨has_side (d := d) h1 (map_limp hm.2 hf) (fun q hq => ?_), has_side (d := d) (hull_len h1).1 (map_limp hm.2 hfh) hF⟩
  have k := aff_all (u := -d.2) (v := d.1) (w := d.2 * p.1 - d.1 * p.2 - 1) h1 (fun i hi => by
    have := hF _ (mem_getD hi)
    generalize (hullF ps).getD i (0, 0) = z at *
    have e : Ahd d p z = -d.2 * z.1 + d.1 * z.2 + (d.2 * p.1 - d.1 * p.2) := by unfold Ahd; grind
    omega) hq
  have e : Ahd d p q = -d.2 * q.1 + d.1 * q.2 + (d.2 * p.1 - d.1 * p.2) := by unfold Ahd; grind
  omega
end Go.Proofs.Ytomnkdlfmjdckaa.Am.Sp
set_option linter.unusedVariables false
set_option linter.unusedSimpArgs false
namespace Go.Proofs.Ytomnkdlfmjdckaa.Am.Sp
open Go
theorem edge_seg {z a b c p : Int × Int} (t1 : 0 < crP z a b) (t2 : 0 < crP a b c) (e1 : 0 ≤ crP z a p) (e3 : 0 ≤ crP b c p) (e0 : crP a b p = 0) : onb a.1 a.2 b.1 b.2 p.1 p.2 = true := by
  refine (onb_iff ..).2 ⟨e0, ?_⟩
  have k : crP z a b * crP b c p = (crP z a b - crP z a p) * crP a b c + crP a b p * (crP z a c - crP z a b) := by unfold crP crs; grind
  rw [e0, Int.zero_mul, Int.add_zero] at k
  have l1 : crP z a b * (p.1 - a.1) = crP z a p * (b.1 - a.1) - crP a b p * (a.1 - z.1) := by unfold crP crs; grind
  have l2 : crP z a b * (p.2 - a.2) = crP z a p * (b.2 - a.2) - crP a b p * (a.2 - z.2) := by unfold crP crs; grind
  rw [e0, Int.zero_mul, Int.sub_zero] at l1 l2
  have n1 := mulnnH (Int.le_of_lt t1) e3
  have le : crP z a p ≤ crP z a b := by
    apply Classical.byContradiction; intro hn
    have := Int.mul_neg_of_neg_of_pos (show crP z a b - crP z a p < 0 by omega) t2
    omega
  generalize crP z a b = Z at *
  generalize crP z a p = K at *
  have d : Z * Z * dot p.1 p.2 a.1 a.2 b.1 b.2 = -(K * (Z - K) * ((b.1 - a.1) * (b.1 - a.1) + (b.2 - a.2) * (b.2 - a.2))) := by
    have m1 : Z * (a.1 - p.1) = -(K * (b.1 - a.1)) := by grind
    have m2 : Z * (a.2 - p.2) = -(K * (b.2 - a.2)) := by grind
    have m3 : Z * (b.1 - p.1) = (Z - K) * (b.1 - a.1) := by grind
    have m4 : Z * (b.2 - p.2) = (Z - K) * (b.2 - a.2) := by grind
    unfold dot
    calc Z * Z * ((a.1 - p.1) * (b.1 - p.1) + (a.2 - p.2) * (b.2 - p.2)) = (Z * (a.1 - p.1)) * (Z * (b.1 - p.1)) + (Z * (a.2 - p.2)) * (Z * (b.2 - p.2)) := by grind
      _ = -(K * (b.1 - a.1)) * ((Z - K) * (b.1 - a.1)) + -(K * (b.2 - a.2)) * ((Z - K) * (b.2 - a.2)) := by rw [m1, m2, m3, m4]
      _ = _ := by grind
  have s1 := sqr_nonneg (b.1 - a.1)
  have s2 := sqr_nonneg (b.2 - a.2)
  have n2 := mulnnH (mulnnH e1 (show 0 ≤ Z - K by omega)) (show 0 ≤ (b.1 - a.1) * (b.1 - a.1) + (b.2 - a.2) * (b.2 - a.2) by omega)
  have zz := Int.mul_pos t1 t1
  apply Classical.byContradiction; intro hn
  have := Int.mul_pos zz (show 0 < dot p.1 p.2 a.1 a.2 b.1 b.2 by omega)
  omega
/-- what is not negative at the corners is not negative in the hull -/
theorem hull_aff {ps : List (Int × Int)} {p : Int × Int} {u v w : Int} (h3 : 2 < (hullF ps).length) (hx : hasH (hullF ps) p.1 p.2 = true) (hc : ∀ i, i < (hullF ps).length → 0 ≤ u * ((hullF ps).getD i (0, 0)).1 + v * ((hullF ps).getD i (0, 0)).2 + w) : 0 ≤ u * p.1 + v * p.2 + w := by
  obtain ⟨i, h2, hi, f1, f2, f3⟩ := fan_no h3 hx
  have t := fan_left (ps := ps) h3 (j := i - 1) (by omega) (by omega)
  rw [show i - 1 + 1 = i by omega] at t
  have g0 := hc 0 (by omega)
  have g1 := hc (i - 1) (by omega)
  have g2 := hc i hi
  generalize (hullF ps).getD i (0, 0) = C at *
  generalize (hullF ps).getD (i - 1) (0, 0) = B at *
  generalize (hullF ps).getD 0 (0, 0) = A at *
  have e : crP A B C * (u * p.1 + v * p.2 + w) = (u * A.1 + v * A.2 + w) * crP B C p + (u * B.1 + v * B.2 + w) * crP C A p + (u * C.1 + v * C.2 + w) * crP A B p := by unfold crP crs; grind
  have n1 := mulnnH g0 f2
  have n2 := mulnnH g1 f3
  have n3 := mulnnH g2 f1
  apply Classical.byContradiction; intro hn
  have := Int.mul_neg_of_pos_of_neg t (show u * p.1 + v * p.2 + w < 0 by omega)
  omega
theorem onany_at {p : Int × Int} : ∀ (l : List (Int × Int)) (a : Int × Int) (i : Nat), i < l.length → onany p a l = false → onb ((a :: l).getD i (0, 0)).1 ((a :: l).getD i (0, 0)).2 ((a :: l).getD (i + 1) (0, 0)).1 ((a :: l).getD (i + 1) (0, 0)).2 p.1 p.2 = false
  | [], _, _, h, _ => by simp at h
  | b :: r, a, 0, _, h => by rw [onany, Bool.or_eq_false_iff] at h; exact h.1
  | b :: r, a, i + 1, hi, h => by
    rw [onany, Bool.or_eq_false_iff] at h
    exact onany_at r b i (by simpa using hi) h.2
def upB (p a b : Int × Int) : Bool := decide (a.1 < p.1) && !decide (b.1 < p.1)
theorem xor_up {p : Int × Int} {f g : Int × Int → Int × Int → Bool} : ∀ (l : List (Int × Int)) (a : Int × Int), (∀ i, i < l.length → f ((a :: l).getD i (0, 0)) ((a :: l).getD (i + 1) (0, 0)) = g ((a :: l).getD i (0, 0)) ((a :: l).getD (i + 1) (0, 0))) → xorp f a l = xorp g a l
  | [], _, _ => rfl
  | b :: r, a, h => by
    rw [xorp, xorp, show f a b = g a b from h 0 (by simp), xor_up (p := p) r b (fun i hi => h (i + 1) (by simpa using hi))]
theorem cD_up {p a b : Int × Int} (h : 0 ≤ crP a b p) (ho : onb a.1 a.2 b.1 b.2 p.1 p.2 = false) : cD p a b = upB p a b := by
  rw [Bool.eq_iff_iff]
  unfold cD upB
  rw [crR_iff, Bool.and_eq_true, Bool.not_eq_true', decide_eq_true_eq, decide_eq_false_iff_not]
  have e1 : (a.1 - p.1) * -(b.2 - p.2) - -(a.2 - p.2) * (b.1 - p.1) = -crP a b p := by unfold crP crs; grind
  have e2 : -(a.2 - p.2) * (b.1 - p.1) - (a.1 - p.1) * -(b.2 - p.2) = crP a b p := by unfold crP crs; grind
  rw [e1, e2]
  constructor
  · rintro (⟨h1, ⟨h2, h3⟩, h4⟩ | ⟨h1, ⟨h2, h3⟩, h4⟩)
    · omega
    · omega
  · rintro ⟨h1, h2⟩
    right
    refine ⟨by omega, ⟨by omega, by omega⟩, ?_⟩
    apply Classical.byContradiction; intro hn
    have h0 : crP a b p = 0 := by omega
    have : onb a.1 a.2 b.1 b.2 p.1 p.2 = true := by
      refine (onb_iff ..).2 ⟨h0, ?_⟩
      -- between in the first coordinate, on the line: between
      have e : (b.1 - a.1) * dot p.1 p.2 a.1 a.2 b.1 b.2 = -((p.1 - a.1) * (b.1 - p.1) * (b.1 - a.1)) + (a.2 - p.2) * (b.2 - p.2) * (b.1 - a.1) := by unfold dot; grind
      have k1 : (b.1 - a.1) * (p.2 - a.2) = (b.2 - a.2) * (p.1 - a.1) := by
        have : crP a b p = (b.1 - a.1) * (p.2 - a.2) - (b.2 - a.2) * (p.1 - a.1) := crP_vec a b p
        omega
      have k2 : (b.1 - a.1) * (b.2 - p.2) = (b.2 - a.2) * (b.1 - p.1) := by grind
      have e3 : (b.1 - a.1) * (b.1 - a.1) * ((a.2 - p.2) * (b.2 - p.2)) = -((b.2 - a.2) * (b.2 - a.2) * ((p.1 - a.1) * (b.1 - p.1))) := by
        calc (b.1 - a.1) * (b.1 - a.1) * ((a.2 - p.2) * (b.2 - p.2)) = -(((b.1 - a.1) * (p.2 - a.2)) * ((b.1 - a.1) * (b.2 - p.2))) := by grind
          _ = -(((b.2 - a.2) * (p.1 - a.1)) * ((b.2 - a.2) * (b.1 - p.1))) := by rw [k1, k2]
          _ = _ := by grind
      have pp := mulnnH (show 0 ≤ p.1 - a.1 by omega) (show 0 ≤ b.1 - p.1 by omega)
      have qq := mulnnH (sqr_nonneg (b.2 - a.2)) pp
      have ww := Int.mul_pos (show 0 < b.1 - a.1 by omega) (show 0 < b.1 - a.1 by omega)
      have y : (a.2 - p.2) * (b.2 - p.2) ≤ 0 := by
        apply Classical.byContradiction; intro hn
        have := Int.mul_pos ww (show 0 < (a.2 - p.2) * (b.2 - p.2) by omega)
        omega
      have x : (a.1 - p.1) * (b.1 - p.1) = -((p.1 - a.1) * (b.1 - p.1)) := by grind
      unfold dot; omega
    rw [ho] at this; cases this
theorem xorp_app {f : Int × Int → Int × Int → Bool} (b : Int × Int) (r : List (Int × Int)) : ∀ (l : List (Int × Int)) (a : Int × Int), xorp f a (l ++ b :: r) = (xorp f a (l ++ [b]) != xorp f b r)
  | [], a => by simp [xorp]
  | c :: t, a => by
    rw [List.cons_append, List.cons_append, xorp, xorp, xorp_app b r t c]
    cases f a c <;> cases xorp f c (t ++ [b]) <;> cases xorp f b r <;> rfl
theorem up_mono {p : Int × Int} : ∀ (l : List (Int × Int)) (a : Int × Int), (a :: l).Pairwise lxP → xorp (upB p) a l = (decide (a.1 < p.1) && !decide ((lastp a l).1 < p.1))
  | [], a, _ => by by_cases c : a.1 < p.1 <;> simp [xorp, lastp, c]
  | b :: r, a, h => by
    obtain ⟨h1, h2⟩ := List.pairwise_cons.1 h
    rw [xorp, lastp, up_mono r b h2]
    have ab := h1 b (by simp)
    have bl : b.1 ≤ (lastp b r).1 := by
      obtain ⟨k1, _⟩ := List.pairwise_cons.1 h2
      cases r with
      | nil => exact Int.le_refl _
      | cons c t =>
        have : lastp b (c :: t) ∈ c :: t := by
          have g : ∀ (t : List (Int × Int)) (c : Int × Int), lastp c t ∈ c :: t := fun t => by
            induction t with
            | nil => intro c; simp [lastp]
            | cons x y ih => intro c; exact List.mem_cons_of_mem _ (ih x)
          exact g t c
        have := k1 _ this
        unfold lxP at this; omega
    have ab1 : a.1 ≤ b.1 := by unfold lxP at ab; omega
    unfold upB
    generalize (lastp b r).1 = z at *
    by_cases c1 : a.1 < p.1 <;> by_cases c2 : b.1 < p.1 <;> by_cases c3 : z < p.1 <;> simp only [c1, c2, c3, decide_true, decide_false] <;> first | rfl | omega
theorem dn_mono {p : Int × Int} : ∀ (l : List (Int × Int)) (a : Int × Int), (a :: l).Pairwise (fun a b => lxP b a) → xorp (upB p) a l = false
  | [], a, _ => rfl
  | b :: r, a, h => by
    obtain ⟨h1, h2⟩ := List.pairwise_cons.1 h
    rw [xorp, dn_mono r b h2]
    have ab := h1 b (by simp)
    have ab1 : b.1 ≤ a.1 := by unfold lxP at ab; omega
    unfold upB
    by_cases c1 : a.1 < p.1 <;> by_cases c2 : b.1 < p.1 <;> simp only [c1, c2, decide_true, decide_false] <;> first | rfl | omega
/-- the closed line of the corners: up, and down again -/
theorem hull_line {ps : List (Int × Int)} (h3 : 2 < (hullF ps).length) : ∃ A B : List (Int × Int), ∃ t : Int × Int, (hullF ps).drop 1 ++ [(hullF ps).getD 0 (0, 0)] = A ++ t :: B ∧ ((hullF ps).getD 0 (0, 0) :: (A ++ [t])).Pairwise lxP ∧ (t :: B).Pairwise (fun a b => lxP b a) ∧ (∀ q ∈ ps, q.1 ≤ t.1) := by
  have g := srd_two (ps := ps) (by omega)
  obtain ⟨q, q2⟩ := hul_srd g
  have eh := hullF_two g
  have hp := q.posU
  have ut := q.utop
  have ub := q.ubot
  have hpl : (stk (srd ps) (srd ps).length).Pairwise (fun a b => lxP b a) := q.low.ds.pair
  have hpu : (stk (srd ps).reverse (srd ps).reverse.length).Pairwise lxP := by
    have k := q.up.ds.pair
    rw [List.pairwise_map] at k
    exact k.imp (fun {a b} h => lxP_neg.1 h)
  have htop := q.top.2
  rw [eh]
  generalize stk (srd ps) (srd ps).length = L at *
  generalize stk (srd ps).reverse (srd ps).reverse.length = U at *
  cases L with
  | nil => simp at q2
  | cons t L' =>
    cases U with
    | nil => simp at hp
    | cons b U' =>
      have rl : (t :: L').reverse.Pairwise lxP := List.pairwise_reverse.2 hpl
      have ru : (b :: U').reverse.Pairwise (fun a b => lxP b a) := List.pairwise_reverse.2 hpu
      rw [List.reverse_cons] at rl ru
      unfold ring2
      simp only [List.tail_cons]
      have hb : b = (t :: L').getD ((t :: L').length - 1) (0, 0) := ut
      have ht : (b :: U').getD ((b :: U').length - 1) (0, 0) = t := ub
      -- both chains, turned round
      rcases hL : L'.reverse with _ | ⟨c, A⟩
      · have := congrArg List.length hL
        simp at this q2
        subst this; simp at q2
      · have hc : c = b := by
          have e1 : (t :: L').reverse = c :: (A ++ [t]) := by rw [List.reverse_cons, hL]; rfl
          have e2 : (t :: L').reverse.getD 0 (0, 0) = c := by rw [e1]; rfl
          have e3 : (t :: L').reverse.getD 0 (0, 0) = (t :: L').getD ((t :: L').length - 1) (0, 0) := by
            rw [getD_lt (by simp), getD_lt (by simp), List.getElem_reverse]; simp
          rw [← e2, e3, hb]
        rw [hL] at rl
        rcases hU : U'.reverse ++ [b] with _ | ⟨t', B⟩
        · simp at hU
        · have ht' : t' = t := by
            have e2 : (b :: U').reverse.getD 0 (0, 0) = t' := by rw [List.reverse_cons, hU]; rfl
            have e3 : (b :: U').reverse.getD 0 (0, 0) = (b :: U').getD ((b :: U').length - 1) (0, 0) := by
              rw [getD_lt (by simp), getD_lt (by simp), List.getElem_reverse]; simp
            rw [← e2, e3, ht]
          rw [hU] at ru
          refine ⟨A, B, t, ?_, ?_, ?_, fun z hz => ?_⟩
          · show (c :: (A ++ U'.reverse)).drop 1 ++ [c] = A ++ t :: B
            rw [List.drop_one, List.tail_cons, List.append_assoc, hc, hU, ht']
          · exact rl
          · rw [← ht']; exact ru
          · have := htop z (srd_mem.2 hz)
            rcases this with k | k
            · rw [k]; exact Int.le_refl _
            · have k2 : lxP z t := k
              unfold lxP at k2; omega
theorem closed_at {h : List (Int × Int)} (h1 : 1 ≤ h.length) {i : Nat} (hi : i < h.length) : (h.getD 0 (0, 0) :: (h.drop 1 ++ [h.getD 0 (0, 0)])).getD i (0, 0) = h.getD i (0, 0) ∧ (h.getD 0 (0, 0) :: (h.drop 1 ++ [h.getD 0 (0, 0)])).getD (i + 1) (0, 0) = h.getD ((i + 1) % h.length) (0, 0) := by
  cases h with
  | nil => simp at h1
  | cons a t =>
    have e : (a :: t).getD 0 (0, 0) :: ((a :: t).drop 1 ++ [(a :: t).getD 0 (0, 0)]) = (a :: t) ++ [a] := rfl
    rw [e]
    constructor
    · rw [getD_lt (by simp; simp at hi; omega), getD_lt hi, List.getElem_append_left hi]
    · by_cases c : i + 1 < (a :: t).length
      · rw [Nat.mod_eq_of_lt c, getD_lt (by simp; simp at c; omega), getD_lt c, List.getElem_append_left c]
      · have e2 : i + 1 = (a :: t).length := by omega
        rw [e2, Nat.mod_self, getD_lt (by simp), List.getElem_append_right (Nat.le_refl _)]
        simp
/-- what is in the hull is in the ring of its corners, or on it -/
theorem has_hull_in {ps : List (Int × Int)} {p : Int × Int} {m : Int} (hm : 0 ≤ m ∧ m ≤ 1048576) (hf : Few m ps) (h3 : 2 < (hullF ps).length) (hx : hasH (hullF ps) p.1 p.2 = true) : 0 ≤ hasF (hullF ps) p.1 p.2 0 (-1) := by
  have hfh : Few m (hullF ps) := few_sub hm.1 hf (fun q hq => hull_sub hq)
  rw [hasv_lim (by omega) (map_limp hm.2 hfh)]
  unfold hasv
  split
  · decide
  · rename_i hoff
    have hoff : onany p ((hullF ps).getD 0 (0, 0)) ((hullF ps).drop 1 ++ [(hullF ps).getD 0 (0, 0)]) = false := by simpa using hoff
    have hin : ∀ {i}, i < (hullF ps).length → (hullF ps).getD i (0, 0) ∈ ps := fun hi => hull_sub (mem_getD hi)
    have h1 : 1 ≤ ps.length := List.length_pos_of_mem (hin (i := 0) (by omega))
    have hlen : ((hullF ps).drop 1 ++ [(hullF ps).getD 0 (0, 0)]).length = (hullF ps).length := by simp; omega
    have hx3 := hx
    rw [hasH_3 (by omega)] at hx3
    have hall : ∀ i, i < (hullF ps).length → 0 ≤ crP ((hullF ps).getD i (0, 0)) ((hullF ps).getD ((i + 1) % (hullF ps).length) (0, 0)) p := fun i hi => hasL_get (hullF ps).length 0 (by omega) hx3 i (by omega) hi
    have hof : ∀ i, i < (hullF ps).length → onb ((hullF ps).getD i (0, 0)).1 ((hullF ps).getD i (0, 0)).2 ((hullF ps).getD ((i + 1) % (hullF ps).length) (0, 0)).1 ((hullF ps).getD ((i + 1) % (hullF ps).length) (0, 0)).2 p.1 p.2 = false := fun i hi => by
      have k := onany_at _ _ i (by rw [hlen]; exact hi) hoff
      obtain ⟨c1, c2⟩ := closed_at (h := hullF ps) (by omega) hi
      rw [c1, c2] at k
      exact k
    have hpar : xorp (cR p) ((hullF ps).getD 0 (0, 0)) ((hullF ps).drop 1 ++ [(hullF ps).getD 0 (0, 0)]) = true := by
      rw [par_ring ((off_iff _ _ _).2 hoff) (lastp_snoc _ _ _)]
      rw [xor_up (p := p) (g := upB p) _ _ (fun i hi => by
        obtain ⟨c1, c2⟩ := closed_at (h := hullF ps) (by omega) (i := i) (by omega)
        rw [c1, c2]
        exact cD_up (hall i (by omega)) (hof i (by omega)))]
      obtain ⟨A, B, t, e1, e2, e3, e4⟩ := hull_line h3
      rw [e1, xorp_app, up_mono _ _ e2, lastp_snoc, dn_mono _ _ e3]
      have ht : p.1 ≤ t.1 := by
        have := hull_aff (u := -1) (v := 0) (w := t.1) h3 hx (fun i hi => by have := e4 _ (hin hi); omega)
        omega
      have hz : ((hullF ps).getD 0 (0, 0)).1 ≤ p.1 := by
        have := hull_aff (u := 1) (v := 0) (w := -((hullF ps).getD 0 (0, 0)).1) h3 hx (fun i hi => by
          have k := (hull_least h1).1 _ (hin hi)
          rcases k with k | k
          · rw [k]; omega
          · unfold lxP at k; omega)
        omega
      have hne : ((hullF ps).getD 0 (0, 0)).1 ≠ p.1 := fun heq => by
        obtain ⟨n, hn⟩ : ∃ n, (hullF ps).length = n := ⟨_, rfl⟩
        have a0 := hall 0 (by omega)
        have b0 := hall (n - 1) (by omega)
        have oa := hof 0 (by omega)
        have ob := hof (n - 1) (by omega)
        have tb := hull_turn h3 (i := n - 1) (by omega)
        have tz := hull_turn h3 (i := n - 2) (by omega)
        have c0 := hall (n - 2) (by omega)
        have la := (hull_least h1).2 1 (by omega) (by omega)
        have lb := (hull_least h1).2 (n - 1) (by omega) (by omega)
        rw [hn] at a0 b0 oa ob tb tz c0
        have m1 : (n - 1 + 1) % n = 0 := by rw [show n - 1 + 1 = n by omega, Nat.mod_self]
        have m2 : (n - 1 + 2) % n = 1 := by rw [show n - 1 + 2 = 1 + n by omega, Nat.add_mod_right, Nat.mod_eq_of_lt (by omega)]
        have m3 : (0 + 1) % n = 1 := Nat.mod_eq_of_lt (by omega)
        have m4 : (n - 2 + 1) % n = n - 1 := by rw [show n - 2 + 1 = n - 1 by omega, Nat.mod_eq_of_lt (by omega)]
        have m5 : (n - 2 + 2) % n = 0 := by rw [show n - 2 + 2 = n by omega, Nat.mod_self]
        rw [m1] at b0 ob
        rw [m1, m2] at tb
        rw [m3] at a0 oa
        rw [m4, m5] at tz
        rw [m4] at c0
        generalize (hullF ps).getD (n - 2) (0, 0) = Y at *
        generalize (hullF ps).getD (n - 1) (0, 0) = b at *
        generalize (hullF ps).getD 1 (0, 0) = a at *
        generalize (hullF ps).getD 0 (0, 0) = z at *
        have v1 : crP z a p = (a.1 - z.1) * (p.2 - z.2) - (a.2 - z.2) * (p.1 - z.1) := crP_vec z a p
        have v2 : crP b z p = (z.1 - b.1) * (p.2 - z.2) - (z.2 - b.2) * (p.1 - z.1) := by unfold crP crs; grind
        have v3 : crP b z a = (z.1 - b.1) * (a.2 - z.2) - (z.2 - b.2) * (a.1 - z.1) := by unfold crP crs; grind
        rw [show p.1 - z.1 = 0 by omega, Int.mul_zero, Int.sub_zero] at v1 v2
        rcases Int.lt_trichotomy (p.2 - z.2) 0 with w | w | w
        · have ha : a.1 = z.1 := by
            apply Classical.byContradiction; intro hn
            have := Int.mul_neg_of_pos_of_neg (show 0 < a.1 - z.1 by unfold lxP at la; omega) w
            omega
          rw [show a.1 - z.1 = 0 by omega, Int.mul_zero, Int.sub_zero] at v3
          have : 0 < a.2 - z.2 := by unfold lxP at la; omega
          have := Int.mul_nonpos_of_nonpos_of_nonneg (show z.1 - b.1 ≤ 0 by unfold lxP at lb; omega) (Int.le_of_lt this)
          omega
        · have : p = z := Prod.ext (by omega) (by omega)
          rw [this, on_start] at oa; cases oa
        · have hb : b.1 = z.1 := by
            apply Classical.byContradiction; intro hn
            have := Int.mul_neg_of_neg_of_pos (show z.1 - b.1 < 0 by unfold lxP at lb; omega) w
            omega
          rw [show z.1 - b.1 = 0 by omega, Int.zero_mul] at v2
          rw [edge_seg tz tb c0 a0 v2] at ob; cases ob
      rw [decide_eq_true (by omega), decide_eq_false (by omega)]
      rfl
    rw [hpar]; decide
end Go.Proofs.Ytomnkdlfmjdckaa.Am.Sp
set_option linter.unusedVariables false
set_option linter.unusedSimpArgs false
namespace Go.Proofs.Ytomnkdlfmjdckaa.Am.Sp
open Go
theorem hull_ex {S L U h : List (Int × Int)} (q : Hul S L U) (h2 : 2 ≤ L.length) (e : ring2 L U = h) : hullF S = h := by
  have q' : Hul (srd S) L U := q.less (fun p hp => srd_mem.1 hp) (fun p hp => srd_mem.2 (q.low.sub p hp)) (fun p hp => srd_mem.2 (q.upS hp))
  have hn := nodup_sub_len q.low.ds.nodup (m := srd S) (fun p hp => srd_mem.2 (q.low.sub p hp))
  obtain ⟨k, _⟩ := hul_srd (ps := S) (by omega)
  obtain ⟨e1, e2⟩ := k.uniq q'
  rw [hullF_two (by omega), e1, e2, e]
theorem low_of {S : List (Int × Int)} {c z : Int × Int} {r : List (Int × Int)} (ds : Ds (c :: r)) (tr : Tr (c :: r)) (lf : Lf S (c :: r)) (bt : (c :: r).getLast? = some z) (hb : ∀ p ∈ S, p = z ∨ lxP z p) (ht : ∀ p ∈ S, p = c ∨ lxP p c) (sub : ∀ p ∈ c :: r, p ∈ S) : Chn S (c :: r) := ⟨ds, tr, lf, ⟨z, bt, hb⟩, ⟨c, r, rfl, ht⟩, sub⟩
theorem up_of {S : List (Int × Int)} {c z : Int × Int} {r : List (Int × Int)} (ds : Ds ((c :: r).map negP)) (tr : Tr ((c :: r).map negP)) (lf : Lf (S.map negP) ((c :: r).map negP)) (bt : (c :: r).getLast? = some z) (hb : ∀ p ∈ S, p = z ∨ lxP p z) (ht : ∀ p ∈ S, p = c ∨ lxP c p) (sub : ∀ p ∈ c :: r, p ∈ S) : Chn (S.map negP) ((c :: r).map negP) :=
  ⟨ds, tr, lf, ⟨negP z, by rw [List.getLast?_map, bt]; rfl, fun p hp => by obtain ⟨q, hq, rfl⟩ := List.mem_map.1 hp; exact (hb q hq).imp (congrArg negP) lxP_neg.2⟩, ⟨negP c, r.map negP, rfl, fun p hp => by obtain ⟨q, hq, rfl⟩ := List.mem_map.1 hp; exact (ht q hq).imp (congrArg negP) lxP_neg.2⟩, fun p hp => by obtain ⟨q, hq, rfl⟩ := List.mem_map.1 hp; exact List.mem_map.2 ⟨q, sub q hq, rfl⟩⟩
theorem neg_all {S : List (Int × Int)} {a b : Int × Int} (h : ∀ p ∈ S, 0 ≤ crP a b p) : ∀ p ∈ S.map negP, 0 ≤ crP (negP a) (negP b) p := fun p hp => by
  obtain ⟨q, hq, rfl⟩ := List.mem_map.1 hp; rw [crP_neg]; exact h q hq
theorem sq_hull {x y r : Int} (hr : 1 ≤ r) : hullF [(x + (0 - r), y + (0 - r)), (x + r, y + (0 - r)), (x + r, y + r), (x + (0 - r), y + r)] = [(x + (0 - r), y + (0 - r)), (x + r, y + (0 - r)), (x + r, y + r), (x + (0 - r), y + r)] := by
  have hS : ∀ p ∈ [(x + (0 - r), y + (0 - r)), (x + r, y + (0 - r)), (x + r, y + r), (x + (0 - r), y + r)], (-r ≤ p.1 - x ∧ p.1 - x ≤ r) ∧ (-r ≤ p.2 - y ∧ p.2 - y ≤ r) := fun p hp => by
    simp only [List.mem_cons, List.not_mem_nil, or_false] at hp
    rcases hp with rfl | rfl | rfl | rfl <;> dsimp only <;> omega
  have hlx : ∀ p ∈ [(x + (0 - r), y + (0 - r)), (x + r, y + (0 - r)), (x + r, y + r), (x + (0 - r), y + r)], (p = (x + (0 - r), y + (0 - r)) ∨ lxP (x + (0 - r), y + (0 - r)) p) ∧ (p = (x + r, y + r) ∨ lxP p (x + r, y + r)) := fun p hp => by
    simp only [List.mem_cons, List.not_mem_nil, or_false] at hp
    rcases hp with rfl | rfl | rfl | rfl <;> rw [Prod.ext_iff, Prod.ext_iff] <;> unfold lxP <;> dsimp only <;> omega
  have e01 : ∀ p ∈ [(x + (0 - r), y + (0 - r)), (x + r, y + (0 - r)), (x + r, y + r), (x + (0 - r), y + r)], 0 ≤ crP (x + (0 - r), y + (0 - r)) (x + r, y + (0 - r)) p := fun p hp => by
    have kp := hS p hp
    rw [show crP (x + (0 - r), y + (0 - r)) (x + r, y + (0 - r)) p = (2 * r) * (p.2 - y + r) from by unfold crP crs; grind]
    exact mulnnH (by omega) (by omega)
  have e12 : ∀ p ∈ [(x + (0 - r), y + (0 - r)), (x + r, y + (0 - r)), (x + r, y + r), (x + (0 - r), y + r)], 0 ≤ crP (x + r, y + (0 - r)) (x + r, y + r) p := fun p hp => by
    have kp := hS p hp
    rw [show crP (x + r, y + (0 - r)) (x + r, y + r) p = (2 * r) * (r - (p.1 - x)) from by unfold crP crs; grind]
    exact mulnnH (by omega) (by omega)
  have e23 : ∀ p ∈ [(x + (0 - r), y + (0 - r)), (x + r, y + (0 - r)), (x + r, y + r), (x + (0 - r), y + r)], 0 ≤ crP (x + r, y + r) (x + (0 - r), y + r) p := fun p hp => by
    have kp := hS p hp
    rw [show crP (x + r, y + r) (x + (0 - r), y + r) p = (2 * r) * (r - (p.2 - y)) from by unfold crP crs; grind]
    exact mulnnH (by omega) (by omega)
  have e30 : ∀ p ∈ [(x + (0 - r), y + (0 - r)), (x + r, y + (0 - r)), (x + r, y + r), (x + (0 - r), y + r)], 0 ≤ crP (x + (0 - r), y + r) (x + (0 - r), y + (0 - r)) p := fun p hp => by
    have kp := hS p hp
    rw [show crP (x + (0 - r), y + r) (x + (0 - r), y + (0 - r)) p = (2 * r) * (p.1 - x + r) from by unfold crP crs; grind]
    exact mulnnH (by omega) (by omega)
  have tL0 : 0 < crP (x + (0 - r), y + (0 - r)) (x + r, y + (0 - r)) (x + r, y + r) := by
    rw [show crP (x + (0 - r), y + (0 - r)) (x + r, y + (0 - r)) (x + r, y + r) = (2 * r) * (2 * r) from by unfold crP crs; grind]
    exact Int.mul_pos (by omega) (by omega)
  have tU0 : 0 < crP (x + r, y + r) (x + (0 - r), y + r) (x + (0 - r), y + (0 - r)) := by
    rw [show crP (x + r, y + r) (x + (0 - r), y + r) (x + (0 - r), y + (0 - r)) = (2 * r) * (2 * r) from by unfold crP crs; grind]
    exact Int.mul_pos (by omega) (by omega)
  refine hull_ex (L := [(x + r, y + r), (x + r, y + (0 - r)), (x + (0 - r), y + (0 - r))]) (U := [(x + (0 - r), y + (0 - r)), (x + (0 - r), y + r), (x + r, y + r)]) ⟨low_of (z := (x + (0 - r), y + (0 - r))) ?_ ?_ ?_ rfl (fun p hp => (hlx p hp).1) (fun p hp => (hlx p hp).2) ?_, up_of (z := (x + r, y + r)) ?_ ?_ ?_ rfl (fun p hp => (hlx p hp).2) (fun p hp => (hlx p hp).1) ?_⟩ (by simp) rfl
  · simp only [Ds, and_true]; unfold lxP; dsimp only; omega
  · simp only [Tr, and_true]; exact tL0
  · exact ⟨e12, e01, trivial⟩
  · intro p hp; simp only [List.mem_cons, List.not_mem_nil, or_false] at hp ⊢; rcases hp with rfl | rfl | rfl <;> simp
  · simp only [List.map, Ds, lxP_neg, and_true]; unfold lxP; dsimp only; omega
  · simp only [List.map, Tr, crP_neg, and_true]; exact tU0
  · exact ⟨neg_all e30, neg_all e23, trivial⟩
  · intro p hp; simp only [List.mem_cons, List.not_mem_nil, or_false] at hp ⊢; rcases hp with rfl | rfl | rfl <;> simp
theorem tri_hull {x y r u v : Int} (hr : 1 ≤ r) (hu : 0 ≤ u ∧ u < 2 * r) (hv : 0 ≤ v ∧ v < 2 * r) : hullF [(x + (0 - r), y + (0 - r)), (x + r, y + (u - r)), (x + (v - r), y + r)] = [(x + (0 - r), y + (0 - r)), (x + r, y + (u - r)), (x + (v - r), y + r)] := by
  have hT : 0 < ((2 * r - u) * (2 * r) + u * (2 * r - v)) := by
    have k1 := Int.mul_pos (show 0 < 2 * r - u by omega) (show 0 < 2 * r by omega)
    have k2 := mulnnH hu.1 (show 0 ≤ 2 * r - v by omega)
    omega
  have hS : ∀ p ∈ [(x + (0 - r), y + (0 - r)), (x + r, y + (u - r)), (x + (v - r), y + r)], -r ≤ p.1 - x ∧ p.1 - x ≤ r := fun p hp => by
    simp only [List.mem_cons, List.not_mem_nil, or_false] at hp
    rcases hp with rfl | rfl | rfl <;> dsimp only <;> omega
  have hlx : ∀ p ∈ [(x + (0 - r), y + (0 - r)), (x + r, y + (u - r)), (x + (v - r), y + r)], (p = (x + (0 - r), y + (0 - r)) ∨ lxP (x + (0 - r), y + (0 - r)) p) ∧ (p = (x + r, y + (u - r)) ∨ lxP p (x + r, y + (u - r))) := fun p hp => by
    simp only [List.mem_cons, List.not_mem_nil, or_false] at hp
    rcases hp with rfl | rfl | rfl <;> rw [Prod.ext_iff, Prod.ext_iff] <;> unfold lxP <;> dsimp only <;> omega
  have e01 : ∀ p ∈ [(x + (0 - r), y + (0 - r)), (x + r, y + (u - r)), (x + (v - r), y + r)], 0 ≤ crP (x + (0 - r), y + (0 - r)) (x + r, y + (u - r)) p := fun p hp => by
    simp only [List.mem_cons, List.not_mem_nil, or_false] at hp
    rcases hp with rfl | rfl | rfl
    · rw [show crP (x + (0 - r), y + (0 - r)) (x + r, y + (u - r)) (x + (0 - r), y + (0 - r)) = 0 from by unfold crP crs; grind]; exact Int.le_refl _
    · rw [show crP (x + (0 - r), y + (0 - r)) (x + r, y + (u - r)) (x + r, y + (u - r)) = 0 from by unfold crP crs; grind]; exact Int.le_refl _
    · rw [show crP (x + (0 - r), y + (0 - r)) (x + r, y + (u - r)) (x + (v - r), y + r) = ((2 * r - u) * (2 * r) + u * (2 * r - v)) from by unfold crP crs; grind]; exact Int.le_of_lt hT
  have e12 : ∀ p ∈ [(x + (0 - r), y + (0 - r)), (x + r, y + (u - r)), (x + (v - r), y + r)], 0 ≤ crP (x + r, y + (u - r)) (x + (v - r), y + r) p := fun p hp => by
    simp only [List.mem_cons, List.not_mem_nil, or_false] at hp
    rcases hp with rfl | rfl | rfl
    · rw [show crP (x + r, y + (u - r)) (x + (v - r), y + r) (x + (0 - r), y + (0 - r)) = ((2 * r - u) * (2 * r) + u * (2 * r - v)) from by unfold crP crs; grind]; exact Int.le_of_lt hT
    · rw [show crP (x + r, y + (u - r)) (x + (v - r), y + r) (x + r, y + (u - r)) = 0 from by unfold crP crs; grind]; exact Int.le_refl _
    · rw [show crP (x + r, y + (u - r)) (x + (v - r), y + r) (x + (v - r), y + r) = 0 from by unfold crP crs; grind]; exact Int.le_refl _
  have e20 : ∀ p ∈ [(x + (0 - r), y + (0 - r)), (x + r, y + (u - r)), (x + (v - r), y + r)], 0 ≤ crP (x + (v - r), y + r) (x + (0 - r), y + (0 - r)) p := fun p hp => by
    simp only [List.mem_cons, List.not_mem_nil, or_false] at hp
    rcases hp with rfl | rfl | rfl
    · rw [show crP (x + (v - r), y + r) (x + (0 - r), y + (0 - r)) (x + (0 - r), y + (0 - r)) = 0 from by unfold crP crs; grind]; exact Int.le_refl _
    · rw [show crP (x + (v - r), y + r) (x + (0 - r), y + (0 - r)) (x + r, y + (u - r)) = ((2 * r - u) * (2 * r) + u * (2 * r - v)) from by unfold crP crs; grind]; exact Int.le_of_lt hT
    · rw [show crP (x + (v - r), y + r) (x + (0 - r), y + (0 - r)) (x + (v - r), y + r) = 0 from by unfold crP crs; grind]; exact Int.le_refl _
  have tU0 : 0 < crP (x + r, y + (u - r)) (x + (v - r), y + r) (x + (0 - r), y + (0 - r)) := by
    rw [show crP (x + r, y + (u - r)) (x + (v - r), y + r) (x + (0 - r), y + (0 - r)) = ((2 * r - u) * (2 * r) + u * (2 * r - v)) from by unfold crP crs; grind]
    exact hT
  refine hull_ex (L := [(x + r, y + (u - r)), (x + (0 - r), y + (0 - r))]) (U := [(x + (0 - r), y + (0 - r)), (x + (v - r), y + r), (x + r, y + (u - r))]) ⟨low_of (z := (x + (0 - r), y + (0 - r))) ?_ ?_ ?_ rfl (fun p hp => (hlx p hp).1) (fun p hp => (hlx p hp).2) ?_, up_of (z := (x + r, y + (u - r))) ?_ ?_ ?_ rfl (fun p hp => (hlx p hp).2) (fun p hp => (hlx p hp).1) ?_⟩ (by simp) rfl
  · simp only [Ds, and_true]; unfold lxP; dsimp only; omega
  · trivial
  · exact ⟨e01, trivial⟩
  · intro p hp; simp only [List.mem_cons, List.not_mem_nil, or_false] at hp ⊢; rcases hp with rfl | rfl <;> simp
  · simp only [List.map, Ds, lxP_neg, and_true]; unfold lxP; dsimp only; omega
  · simp only [List.map, Tr, crP_neg, and_true]; exact tU0
  · exact ⟨neg_all e20, neg_all e12, trivial⟩
  · intro p hp; simp only [List.mem_cons, List.not_mem_nil, or_false] at hp ⊢; rcases hp with rfl | rfl | rfl <;> simp
theorem arr_hull {x y r k : Int} (hr : 2 ≤ r) (hk : 0 ≤ k ∧ k < r - 1) : hullF [(x + (0 - r), y + (0 - r)), (x + 0, y + (-1 - k)), (x + r, y + (0 - r)), (x + 0, y + r)] = [(x + (0 - r), y + (0 - r)), (x + r, y + (0 - r)), (x + 0, y + r)] := by
  have hS : ∀ p ∈ [(x + (0 - r), y + (0 - r)), (x + 0, y + (-1 - k)), (x + r, y + (0 - r)), (x + 0, y + r)], (-r ≤ p.2 - y) ∧ (2 * (p.1 - x) + (p.2 - y) ≤ r) ∧ ((p.2 - y) - 2 * (p.1 - x) ≤ r) := fun p hp => by
    simp only [List.mem_cons, List.not_mem_nil, or_false] at hp
    rcases hp with rfl | rfl | rfl | rfl <;> dsimp only <;> omega
  have hlx : ∀ p ∈ [(x + (0 - r), y + (0 - r)), (x + 0, y + (-1 - k)), (x + r, y + (0 - r)), (x + 0, y + r)], (p = (x + (0 - r), y + (0 - r)) ∨ lxP (x + (0 - r), y + (0 - r)) p) ∧ (p = (x + r, y + (0 - r)) ∨ lxP p (x + r, y + (0 - r))) := fun p hp => by
    simp only [List.mem_cons, List.not_mem_nil, or_false] at hp
    rcases hp with rfl | rfl | rfl | rfl <;> rw [Prod.ext_iff, Prod.ext_iff] <;> unfold lxP <;> dsimp only <;> omega
  have e02 : ∀ p ∈ [(x + (0 - r), y + (0 - r)), (x + 0, y + (-1 - k)), (x + r, y + (0 - r)), (x + 0, y + r)], 0 ≤ crP (x + (0 - r), y + (0 - r)) (x + r, y + (0 - r)) p := fun p hp => by
    have kp := hS p hp
    rw [show crP (x + (0 - r), y + (0 - r)) (x + r, y + (0 - r)) p = (2 * r) * (p.2 - y + r) from by unfold crP crs; grind]
    exact mulnnH (by omega) (by omega)
  have e23 : ∀ p ∈ [(x + (0 - r), y + (0 - r)), (x + 0, y + (-1 - k)), (x + r, y + (0 - r)), (x + 0, y + r)], 0 ≤ crP (x + r, y + (0 - r)) (x + 0, y + r) p := fun p hp => by
    have kp := hS p hp
    rw [show crP (x + r, y + (0 - r)) (x + 0, y + r) p = (r) * (r - (p.2 - y) - 2 * (p.1 - x)) from by unfold crP crs; grind]
    exact mulnnH (by omega) (by omega)
  have e30 : ∀ p ∈ [(x + (0 - r), y + (0 - r)), (x + 0, y + (-1 - k)), (x + r, y + (0 - r)), (x + 0, y + r)], 0 ≤ crP (x + 0, y + r) (x + (0 - r), y + (0 - r)) p := fun p hp => by
    have kp := hS p hp
    rw [show crP (x + 0, y + r) (x + (0 - r), y + (0 - r)) p = (r) * (r - (p.2 - y) + 2 * (p.1 - x)) from by unfold crP crs; grind]
    exact mulnnH (by omega) (by omega)
  have tU0 : 0 < crP (x + r, y + (0 - r)) (x + 0, y + r) (x + (0 - r), y + (0 - r)) := by
    rw [show crP (x + r, y + (0 - r)) (x + 0, y + r) (x + (0 - r), y + (0 - r)) = r * (4 * r) from by unfold crP crs; grind]
    exact Int.mul_pos (by omega) (by omega)
  refine hull_ex (L := [(x + r, y + (0 - r)), (x + (0 - r), y + (0 - r))]) (U := [(x + (0 - r), y + (0 - r)), (x + 0, y + r), (x + r, y + (0 - r))]) ⟨low_of (z := (x + (0 - r), y + (0 - r))) ?_ ?_ ?_ rfl (fun p hp => (hlx p hp).1) (fun p hp => (hlx p hp).2) ?_, up_of (z := (x + r, y + (0 - r))) ?_ ?_ ?_ rfl (fun p hp => (hlx p hp).2) (fun p hp => (hlx p hp).1) ?_⟩ (by simp) rfl
  · simp only [Ds, and_true]; unfold lxP; dsimp only; omega
  · trivial
  · exact ⟨e02, trivial⟩
  · intro p hp; simp only [List.mem_cons, List.not_mem_nil, or_false] at hp ⊢; rcases hp with rfl | rfl <;> simp
  · simp only [List.map, Ds, lxP_neg, and_true]; unfold lxP; dsimp only; omega
  · simp only [List.map, Tr, crP_neg, and_true]; exact tU0
  · exact ⟨neg_all e30, neg_all e23, trivial⟩
  · intro p hp; simp only [List.mem_cons, List.not_mem_nil, or_false] at hp ⊢; rcases hp with rfl | rfl | rfl <;> simp
theorem oct_hull {x y r k : Int} (hr : 2 ≤ r) (hk : 1 ≤ k ∧ k < r) : hullF [(x + (0 - r), y + (0 - k)), (x + (0 - k), y + (0 - r)), (x + k, y + (0 - r)), (x + r, y + (0 - k)), (x + r, y + k), (x + k, y + r), (x + (0 - k), y + r), (x + (0 - r), y + k)] = [(x + (0 - r), y + (0 - k)), (x + (0 - k), y + (0 - r)), (x + k, y + (0 - r)), (x + r, y + (0 - k)), (x + r, y + k), (x + k, y + r), (x + (0 - k), y + r), (x + (0 - r), y + k)] := by
  have hS : ∀ p ∈ [(x + (0 - r), y + (0 - k)), (x + (0 - k), y + (0 - r)), (x + k, y + (0 - r)), (x + r, y + (0 - k)), (x + r, y + k), (x + k, y + r), (x + (0 - k), y + r), (x + (0 - r), y + k)], ((-r ≤ p.1 - x ∧ p.1 - x ≤ r) ∧ (-r ≤ p.2 - y ∧ p.2 - y ≤ r)) ∧ (-(r + k) ≤ (p.1 - x) + (p.2 - y) ∧ (p.1 - x) + (p.2 - y) ≤ r + k) ∧ (-(r + k) ≤ (p.1 - x) - (p.2 - y) ∧ (p.1 - x) - (p.2 - y) ≤ r + k) := fun p hp => by
    simp only [List.mem_cons, List.not_mem_nil, or_false] at hp
    rcases hp with rfl | rfl | rfl | rfl | rfl | rfl | rfl | rfl <;> dsimp only <;> omega
  have hlx : ∀ p ∈ [(x + (0 - r), y + (0 - k)), (x + (0 - k), y + (0 - r)), (x + k, y + (0 - r)), (x + r, y + (0 - k)), (x + r, y + k), (x + k, y + r), (x + (0 - k), y + r), (x + (0 - r), y + k)], (p = (x + (0 - r), y + (0 - k)) ∨ lxP (x + (0 - r), y + (0 - k)) p) ∧ (p = (x + r, y + k) ∨ lxP p (x + r, y + k)) := fun p hp => by
    simp only [List.mem_cons, List.not_mem_nil, or_false] at hp
    rcases hp with rfl | rfl | rfl | rfl | rfl | rfl | rfl | rfl <;> rw [Prod.ext_iff, Prod.ext_iff] <;> unfold lxP <;> dsimp only <;> omega
  have e01 : ∀ p ∈ [(x + (0 - r), y + (0 - k)), (x + (0 - k), y + (0 - r)), (x + k, y + (0 - r)), (x + r, y + (0 - k)), (x + r, y + k), (x + k, y + r), (x + (0 - k), y + r), (x + (0 - r), y + k)], 0 ≤ crP (x + (0 - r), y + (0 - k)) (x + (0 - k), y + (0 - r)) p := fun p hp => by
    have kp := hS p hp
    rw [show crP (x + (0 - r), y + (0 - k)) (x + (0 - k), y + (0 - r)) p = (r - k) * ((p.1 - x) + (p.2 - y) + (r + k)) from by unfold crP crs; grind]
    exact mulnnH (by omega) (by omega)
  have e12 : ∀ p ∈ [(x + (0 - r), y + (0 - k)), (x + (0 - k), y + (0 - r)), (x + k, y + (0 - r)), (x + r, y + (0 - k)), (x + r, y + k), (x + k, y + r), (x + (0 - k), y + r), (x + (0 - r), y + k)], 0 ≤ crP (x + (0 - k), y + (0 - r)) (x + k, y + (0 - r)) p := fun p hp => by
    have kp := hS p hp
    rw [show crP (x + (0 - k), y + (0 - r)) (x + k, y + (0 - r)) p = (2 * k) * (p.2 - y + r) from by unfold crP crs; grind]
    exact mulnnH (by omega) (by omega)
  have e23 : ∀ p ∈ [(x + (0 - r), y + (0 - k)), (x + (0 - k), y + (0 - r)), (x + k, y + (0 - r)), (x + r, y + (0 - k)), (x + r, y + k), (x + k, y + r), (x + (0 - k), y + r), (x + (0 - r), y + k)], 0 ≤ crP (x + k, y + (0 - r)) (x + r, y + (0 - k)) p := fun p hp => by
    have kp := hS p hp
    rw [show crP (x + k, y + (0 - r)) (x + r, y + (0 - k)) p = (r - k) * ((r + k) - ((p.1 - x) - (p.2 - y))) from by unfold crP crs; grind]
    exact mulnnH (by omega) (by omega)
  have e34 : ∀ p ∈ [(x + (0 - r), y + (0 - k)), (x + (0 - k), y + (0 - r)), (x + k, y + (0 - r)), (x + r, y + (0 - k)), (x + r, y + k), (x + k, y + r), (x + (0 - k), y + r), (x + (0 - r), y + k)], 0 ≤ crP (x + r, y + (0 - k)) (x + r, y + k) p := fun p hp => by
    have kp := hS p hp
    rw [show crP (x + r, y + (0 - k)) (x + r, y + k) p = (2 * k) * (r - (p.1 - x)) from by unfold crP crs; grind]
    exact mulnnH (by omega) (by omega)
  have e45 : ∀ p ∈ [(x + (0 - r), y + (0 - k)), (x + (0 - k), y + (0 - r)), (x + k, y + (0 - r)), (x + r, y + (0 - k)), (x + r, y + k), (x + k, y + r), (x + (0 - k), y + r), (x + (0 - r), y + k)], 0 ≤ crP (x + r, y + k) (x + k, y + r) p := fun p hp => by
    have kp := hS p hp
    rw [show crP (x + r, y + k) (x + k, y + r) p = (r - k) * ((r + k) - ((p.1 - x) + (p.2 - y))) from by unfold crP crs; grind]
    exact mulnnH (by omega) (by omega)
  have e56 : ∀ p ∈ [(x + (0 - r), y + (0 - k)), (x + (0 - k), y + (0 - r)), (x + k, y + (0 - r)), (x + r, y + (0 - k)), (x + r, y + k), (x + k, y + r), (x + (0 - k), y + r), (x + (0 - r), y + k)], 0 ≤ crP (x + k, y + r) (x + (0 - k), y + r) p := fun p hp => by
    have kp := hS p hp
    rw [show crP (x + k, y + r) (x + (0 - k), y + r) p = (2 * k) * (r - (p.2 - y)) from by unfold crP crs; grind]
    exact mulnnH (by omega) (by omega)
  have e67 : ∀ p ∈ [(x + (0 - r), y + (0 - k)), (x + (0 - k), y + (0 - r)), (x + k, y + (0 - r)), (x + r, y + (0 - k)), (x + r, y + k), (x + k, y + r), (x + (0 - k), y + r), (x + (0 - r), y + k)], 0 ≤ crP (x + (0 - k), y + r) (x + (0 - r), y + k) p := fun p hp => by
    have kp := hS p hp
    rw [show crP (x + (0 - k), y + r) (x + (0 - r), y + k) p = (r - k) * ((p.1 - x) - (p.2 - y) + (r + k)) from by unfold crP crs; grind]
    exact mulnnH (by omega) (by omega)
  have e70 : ∀ p ∈ [(x + (0 - r), y + (0 - k)), (x + (0 - k), y + (0 - r)), (x + k, y + (0 - r)), (x + r, y + (0 - k)), (x + r, y + k), (x + k, y + r), (x + (0 - k), y + r), (x + (0 - r), y + k)], 0 ≤ crP (x + (0 - r), y + k) (x + (0 - r), y + (0 - k)) p := fun p hp => by
    have kp := hS p hp
    rw [show crP (x + (0 - r), y + k) (x + (0 - r), y + (0 - k)) p = (2 * k) * (p.1 - x + r) from by unfold crP crs; grind]
    exact mulnnH (by omega) (by omega)
  have tL0 : 0 < crP (x + k, y + (0 - r)) (x + r, y + (0 - k)) (x + r, y + k) := by
    rw [show crP (x + k, y + (0 - r)) (x + r, y + (0 - k)) (x + r, y + k) = (2 * k) * (r - k) from by unfold crP crs; grind]
    exact Int.mul_pos (by omega) (by omega)
  have tL1 : 0 < crP (x + (0 - k), y + (0 - r)) (x + k, y + (0 - r)) (x + r, y + (0 - k)) := by
    rw [show crP (x + (0 - k), y + (0 - r)) (x + k, y + (0 - r)) (x + r, y + (0 - k)) = (2 * k) * (r - k) from by unfold crP crs; grind]
    exact Int.mul_pos (by omega) (by omega)
  have tL2 : 0 < crP (x + (0 - r), y + (0 - k)) (x + (0 - k), y + (0 - r)) (x + k, y + (0 - r)) := by
    rw [show crP (x + (0 - r), y + (0 - k)) (x + (0 - k), y + (0 - r)) (x + k, y + (0 - r)) = (2 * k) * (r - k) from by unfold crP crs; grind]
    exact Int.mul_pos (by omega) (by omega)
  have tU0 : 0 < crP (x + (0 - k), y + r) (x + (0 - r), y + k) (x + (0 - r), y + (0 - k)) := by
    rw [show crP (x + (0 - k), y + r) (x + (0 - r), y + k) (x + (0 - r), y + (0 - k)) = (2 * k) * (r - k) from by unfold crP crs; grind]
    exact Int.mul_pos (by omega) (by omega)
  have tU1 : 0 < crP (x + k, y + r) (x + (0 - k), y + r) (x + (0 - r), y + k) := by
    rw [show crP (x + k, y + r) (x + (0 - k), y + r) (x + (0 - r), y + k) = (2 * k) * (r - k) from by unfold crP crs; grind]
    exact Int.mul_pos (by omega) (by omega)
  have tU2 : 0 < crP (x + r, y + k) (x + k, y + r) (x + (0 - k), y + r) := by
    rw [show crP (x + r, y + k) (x + k, y + r) (x + (0 - k), y + r) = (2 * k) * (r - k) from by unfold crP crs; grind]
    exact Int.mul_pos (by omega) (by omega)
  refine hull_ex (L := [(x + r, y + k), (x + r, y + (0 - k)), (x + k, y + (0 - r)), (x + (0 - k), y + (0 - r)), (x + (0 - r), y + (0 - k))]) (U := [(x + (0 - r), y + (0 - k)), (x + (0 - r), y + k), (x + (0 - k), y + r), (x + k, y + r), (x + r, y + k)]) ⟨low_of (z := (x + (0 - r), y + (0 - k))) ?_ ?_ ?_ rfl (fun p hp => (hlx p hp).1) (fun p hp => (hlx p hp).2) ?_, up_of (z := (x + r, y + k)) ?_ ?_ ?_ rfl (fun p hp => (hlx p hp).2) (fun p hp => (hlx p hp).1) ?_⟩ (by simp) rfl
  · simp only [Ds, and_true]; unfold lxP; dsimp only; omega
  · simp only [Tr, and_true]; exact ⟨tL0, tL1, tL2⟩
  · exact ⟨e34, e23, e12, e01, trivial⟩
  · intro p hp; simp only [List.mem_cons, List.not_mem_nil, or_false] at hp ⊢; rcases hp with rfl | rfl | rfl | rfl | rfl <;> simp
  · simp only [List.map, Ds, lxP_neg, and_true]; unfold lxP; dsimp only; omega
  · simp only [List.map, Tr, crP_neg, and_true]; exact ⟨tU0, tU1, tU2⟩
  · exact ⟨neg_all e70, neg_all e67, neg_all e56, neg_all e45, trivial⟩
  · intro p hp; simp only [List.mem_cons, List.not_mem_nil, or_false] at hp ⊢; rcases hp with rfl | rfl | rfl | rfl | rfl <;> simp
theorem ell_hull {x y r a b : Int} (hr : 1 ≤ r) (ha : 0 ≤ a ∧ a < r) (hb : 0 ≤ b ∧ b < r) : hullF [(x + (0 - r), y + (0 - r)), (x + r, y + (0 - r)), (x + r, y + (0 - b)), (x + (0 - a), y + (0 - b)), (x + (0 - a), y + r), (x + (0 - r), y + r)] = [(x + (0 - r), y + (0 - r)), (x + r, y + (0 - r)), (x + r, y + (0 - b)), (x + (0 - a), y + r), (x + (0 - r), y + r)] := by
  have hS : ∀ p ∈ [(x + (0 - r), y + (0 - r)), (x + r, y + (0 - r)), (x + r, y + (0 - b)), (x + (0 - a), y + (0 - b)), (x + (0 - a), y + r), (x + (0 - r), y + r)], (-r ≤ p.1 - x ∧ p.1 - x ≤ r) ∧ (-r ≤ p.2 - y ∧ p.2 - y ≤ r) := fun p hp => by
    simp only [List.mem_cons, List.not_mem_nil, or_false] at hp
    rcases hp with rfl | rfl | rfl | rfl | rfl | rfl <;> dsimp only <;> omega
  have hlx : ∀ p ∈ [(x + (0 - r), y + (0 - r)), (x + r, y + (0 - r)), (x + r, y + (0 - b)), (x + (0 - a), y + (0 - b)), (x + (0 - a), y + r), (x + (0 - r), y + r)], (p = (x + (0 - r), y + (0 - r)) ∨ lxP (x + (0 - r), y + (0 - r)) p) ∧ (p = (x + r, y + (0 - b)) ∨ lxP p (x + r, y + (0 - b))) := fun p hp => by
    simp only [List.mem_cons, List.not_mem_nil, or_false] at hp
    rcases hp with rfl | rfl | rfl | rfl | rfl | rfl <;> rw [Prod.ext_iff, Prod.ext_iff] <;> unfold lxP <;> dsimp only <;> omega
  have e01 : ∀ p ∈ [(x + (0 - r), y + (0 - r)), (x + r, y + (0 - r)), (x + r, y + (0 - b)), (x + (0 - a), y + (0 - b)), (x + (0 - a), y + r), (x + (0 - r), y + r)], 0 ≤ crP (x + (0 - r), y + (0 - r)) (x + r, y + (0 - r)) p := fun p hp => by
    have kp := hS p hp
    rw [show crP (x + (0 - r), y + (0 - r)) (x + r, y + (0 - r)) p = (2 * r) * (p.2 - y + r) from by unfold crP crs; grind]
    exact mulnnH (by omega) (by omega)
  have e12 : ∀ p ∈ [(x + (0 - r), y + (0 - r)), (x + r, y + (0 - r)), (x + r, y + (0 - b)), (x + (0 - a), y + (0 - b)), (x + (0 - a), y + r), (x + (0 - r), y + r)], 0 ≤ crP (x + r, y + (0 - r)) (x + r, y + (0 - b)) p := fun p hp => by
    have kp := hS p hp
    rw [show crP (x + r, y + (0 - r)) (x + r, y + (0 - b)) p = (r - b) * (r - (p.1 - x)) from by unfold crP crs; grind]
    exact mulnnH (by omega) (by omega)
  have e24 : ∀ p ∈ [(x + (0 - r), y + (0 - r)), (x + r, y + (0 - r)), (x + r, y + (0 - b)), (x + (0 - a), y + (0 - b)), (x + (0 - a), y + r), (x + (0 - r), y + r)], 0 ≤ crP (x + r, y + (0 - b)) (x + (0 - a), y + r) p := fun p hp => by
    simp only [List.mem_cons, List.not_mem_nil, or_false] at hp
    rcases hp with rfl | rfl | rfl | rfl | rfl | rfl
    · rw [show crP (x + r, y + (0 - b)) (x + (0 - a), y + r) (x + (0 - r), y + (0 - r)) = (r + b) * (2 * r) + (a + r) * (r - b) from by unfold crP crs; grind]; have k1 := mulnnH (show 0 ≤ r + b by omega) (show 0 ≤ 2 * r by omega); have k2 := mulnnH (show 0 ≤ a + r by omega) (show 0 ≤ r - b by omega); omega
    · rw [show crP (x + r, y + (0 - b)) (x + (0 - a), y + r) (x + r, y + (0 - r)) = (a + r) * (r - b) from by unfold crP crs; grind]; exact mulnnH (by omega) (by omega)
    · rw [show crP (x + r, y + (0 - b)) (x + (0 - a), y + r) (x + r, y + (0 - b)) = 0 from by unfold crP crs; grind]; exact Int.le_refl _
    · rw [show crP (x + r, y + (0 - b)) (x + (0 - a), y + r) (x + (0 - a), y + (0 - b)) = (r + b) * (r + a) from by unfold crP crs; grind]; exact mulnnH (by omega) (by omega)
    · rw [show crP (x + r, y + (0 - b)) (x + (0 - a), y + r) (x + (0 - a), y + r) = 0 from by unfold crP crs; grind]; exact Int.le_refl _
    · rw [show crP (x + r, y + (0 - b)) (x + (0 - a), y + r) (x + (0 - r), y + r) = (r + b) * (r - a) from by unfold crP crs; grind]; exact mulnnH (by omega) (by omega)
  have e45 : ∀ p ∈ [(x + (0 - r), y + (0 - r)), (x + r, y + (0 - r)), (x + r, y + (0 - b)), (x + (0 - a), y + (0 - b)), (x + (0 - a), y + r), (x + (0 - r), y + r)], 0 ≤ crP (x + (0 - a), y + r) (x + (0 - r), y + r) p := fun p hp => by
    have kp := hS p hp
    rw [show crP (x + (0 - a), y + r) (x + (0 - r), y + r) p = (r - a) * (r - (p.2 - y)) from by unfold crP crs; grind]
    exact mulnnH (by omega) (by omega)
  have e50 : ∀ p ∈ [(x + (0 - r), y + (0 - r)), (x + r, y + (0 - r)), (x + r, y + (0 - b)), (x + (0 - a), y + (0 - b)), (x + (0 - a), y + r), (x + (0 - r), y + r)], 0 ≤ crP (x + (0 - r), y + r) (x + (0 - r), y + (0 - r)) p := fun p hp => by
    have kp := hS p hp
    rw [show crP (x + (0 - r), y + r) (x + (0 - r), y + (0 - r)) p = (2 * r) * (p.1 - x + r) from by unfold crP crs; grind]
    exact mulnnH (by omega) (by omega)
  have tL0 : 0 < crP (x + (0 - r), y + (0 - r)) (x + r, y + (0 - r)) (x + r, y + (0 - b)) := by
    rw [show crP (x + (0 - r), y + (0 - r)) (x + r, y + (0 - r)) (x + r, y + (0 - b)) = (2 * r) * (r - b) from by unfold crP crs; grind]
    exact Int.mul_pos (by omega) (by omega)
  have tU0 : 0 < crP (x + (0 - a), y + r) (x + (0 - r), y + r) (x + (0 - r), y + (0 - r)) := by
    rw [show crP (x + (0 - a), y + r) (x + (0 - r), y + r) (x + (0 - r), y + (0 - r)) = (2 * r) * (r - a) from by unfold crP crs; grind]
    exact Int.mul_pos (by omega) (by omega)
  have tU1 : 0 < crP (x + r, y + (0 - b)) (x + (0 - a), y + r) (x + (0 - r), y + r) := by
    rw [show crP (x + r, y + (0 - b)) (x + (0 - a), y + r) (x + (0 - r), y + r) = (r + b) * (r - a) from by unfold crP crs; grind]
    exact Int.mul_pos (by omega) (by omega)
  refine hull_ex (L := [(x + r, y + (0 - b)), (x + r, y + (0 - r)), (x + (0 - r), y + (0 - r))]) (U := [(x + (0 - r), y + (0 - r)), (x + (0 - r), y + r), (x + (0 - a), y + r), (x + r, y + (0 - b))]) ⟨low_of (z := (x + (0 - r), y + (0 - r))) ?_ ?_ ?_ rfl (fun p hp => (hlx p hp).1) (fun p hp => (hlx p hp).2) ?_, up_of (z := (x + r, y + (0 - b))) ?_ ?_ ?_ rfl (fun p hp => (hlx p hp).2) (fun p hp => (hlx p hp).1) ?_⟩ (by simp) rfl
  · simp only [Ds, and_true]; unfold lxP; dsimp only; omega
  · simp only [Tr, and_true]; exact tL0
  · exact ⟨e12, e01, trivial⟩
  · intro p hp; simp only [List.mem_cons, List.not_mem_nil, or_false] at hp ⊢; rcases hp with rfl | rfl | rfl <;> simp
  · simp only [List.map, Ds, lxP_neg, and_true]; unfold lxP; dsimp only; omega
  · simp only [List.map, Tr, crP_neg, and_true]; exact ⟨tU0, tU1⟩
  · exact ⟨neg_all e50, neg_all e45, neg_all e24, trivial⟩
  · intro p hp; simp only [List.mem_cons, List.not_mem_nil, or_false] at hp ⊢; rcases hp with rfl | rfl | rfl | rfl <;> simp
end Go.Proofs.Ytomnkdlfmjdckaa.Am.Sp
set_option linter.unusedVariables false
set_option linter.unusedSimpArgs false
namespace Go.Proofs.Ytomnkdlfmjdckaa.Am.Sp
open Go
theorem trp_few {ps : List (Int × Int)} (hf : Few 40 ps) (i j : Nat) : trp ps i j = ((ps.getD i (0, 0)).1 - (ps.getD j (0, 0)).1) * ((ps.getD i (0, 0)).2 + (ps.getD j (0, 0)).2) := by
  have a := hf i
  have b := hf j
  unfold trp cA cB
  rw [lim_id (by omega) (by omega), lim_id (by omega) (by omega), lim_id (by omega) (by omega), lim_id (by omega) (by omega)]
theorem arr_area {x y r k : Int} (hr : 2 ≤ r) (hk : 0 ≤ k ∧ k < r - 1) (f1 : Few 40 [(x + (0 - r), y + (0 - r)), (x + 0, y + (-1 - k)), (x + r, y + (0 - r)), (x + 0, y + r)]) (f2 : Few 40 [(x + (0 - r), y + (0 - r)), (x + r, y + (0 - r)), (x + 0, y + r)]) : areaN [(x + (0 - r), y + (0 - r)), (x + 0, y + (-1 - k)), (x + r, y + (0 - r)), (x + 0, y + r)] < areaN [(x + (0 - r), y + (0 - r)), (x + r, y + (0 - r)), (x + 0, y + r)] := by
  have h := Int.mul_pos (show 0 < 2 * r by omega) (show 0 < r - 1 - k by omega)
  have e : areaN [(x + (0 - r), y + (0 - r)), (x + r, y + (0 - r)), (x + 0, y + r)] - areaN [(x + (0 - r), y + (0 - r)), (x + 0, y + (-1 - k)), (x + r, y + (0 - r)), (x + 0, y + r)] = 2 * r * (r - 1 - k) := by
    unfold areaN
    simp only [List.length_cons, List.length_nil, sumN, trE, trp_few f1, trp_few f2, Nat.reduceAdd, Nat.reduceMod, List.getD_cons_zero, List.getD_cons_succ]
    grind
  omega
theorem ell_area {x y r a b : Int} (hr : 1 ≤ r) (ha : 0 ≤ a ∧ a < r) (hb : 0 ≤ b ∧ b < r) (f1 : Few 40 [(x + (0 - r), y + (0 - r)), (x + r, y + (0 - r)), (x + r, y + (0 - b)), (x + (0 - a), y + (0 - b)), (x + (0 - a), y + r), (x + (0 - r), y + r)]) (f2 : Few 40 [(x + (0 - r), y + (0 - r)), (x + r, y + (0 - r)), (x + r, y + (0 - b)), (x + (0 - a), y + r), (x + (0 - r), y + r)]) : areaN [(x + (0 - r), y + (0 - r)), (x + r, y + (0 - r)), (x + r, y + (0 - b)), (x + (0 - a), y + (0 - b)), (x + (0 - a), y + r), (x + (0 - r), y + r)] < areaN [(x + (0 - r), y + (0 - r)), (x + r, y + (0 - r)), (x + r, y + (0 - b)), (x + (0 - a), y + r), (x + (0 - r), y + r)] := by
  have h := Int.mul_pos (show 0 < r + a by omega) (show 0 < r + b by omega)
  have e : areaN [(x + (0 - r), y + (0 - r)), (x + r, y + (0 - r)), (x + r, y + (0 - b)), (x + (0 - a), y + r), (x + (0 - r), y + r)] - areaN [(x + (0 - r), y + (0 - r)), (x + r, y + (0 - r)), (x + r, y + (0 - b)), (x + (0 - a), y + (0 - b)), (x + (0 - a), y + r), (x + (0 - r), y + r)] = (r + a) * (r + b) := by
    unfold areaN
    simp only [List.length_cons, List.length_nil, sumN, trE, trp_few f1, trp_few f2, Nat.reduceAdd, Nat.reduceMod, List.getD_cons_zero, List.getD_cons_succ]
    grind
  omega
theorem rng_hull {x y r s u v : Int} (hr : 4 ≤ r) (hs : 0 ≤ s ∧ s ≤ 4) (hf : Few 40 (rng x y r s u v)) (hfh : Few 40 (hullF (rng x y r s u v))) : hullF (rng x y r s u v) = rng x y r s u v ∨ (areaN (rng x y r s u v) < areaN (hullF (rng x y r s u v)) ∧ 3 ≤ (hullF (rng x y r s u v)).length ∧ (hullF (rng x y r s u v)).length ≤ 8) := by
  have u2 := emod_bd u (n := 2 * r) (by omega)
  have v2 := emod_bd v (n := 2 * r) (by omega)
  have u1 := emod_bd u (n := r) (by omega)
  have v1 := emod_bd v (n := r) (by omega)
  have u3 := emod_bd u (n := r - 1) (by omega)
  unfold rng at hf hfh ⊢
  split
  · exact .inl (tri_hull (by omega) (by omega) (by omega))
  · split
    · right
      rename_i c1 c2
      rw [if_neg c1, if_pos c2] at hf hfh
      rw [ell_hull (by omega) (by omega) (by omega)] at hfh ⊢
      exact ⟨ell_area (by omega) (by omega) (by omega) hf hfh, by simp, by simp⟩
    · split
      · right
        rename_i c1 c2 c3
        rw [if_neg c1, if_neg c2, if_pos c3] at hf hfh
        rw [arr_hull (by omega) (by omega)] at hfh ⊢
        exact ⟨arr_area (by omega) (by omega) hf hfh, by simp, by simp⟩
      · split
        · exact .inl (oct_hull (by omega) (by omega))
        · exact .inl (sq_hull (by omega))
theorem rngL_hull (xs : List Int) : hullF (rngL xs) = rngL xs ∨ (areaN (rngL xs) < areaN (hullF (rngL xs)) ∧ 3 ≤ (hullF (rngL xs)).length ∧ (hullF (rngL xs)).length ≤ 8) := by
  have c := emod_bd (xs.getD 2 0) (n := 16) (by decide)
  have d := emod_bd (xs.getD 3 0) (n := 5) (by decide)
  exact rng_hull (by omega) (by omega) (rngL_few xs) (few_sub (by decide) (rngL_few xs) (fun q hq => hull_sub hq))
/-- a ring that is its own hull is its own normal form -/
theorem nrm_hull {ps : List (Int × Int)} (h : hullF ps = ps) (h1 : 1 ≤ ps.length) (ha : 0 < areaN ps) (hf : Few 40 ps) (hl : ps.length ≤ 8) : nrmL ps 0 = ps ∧ ∀ j, j < ps.length → befP (ps.getD j (0, 0)) (ps.getD 0 (0, 0)) = false := by
  refine ⟨by rw [nrm_pl (by rw [(twF_area hf hl).1]; omega), rot_zero], fun j hj => ?_⟩
  have k := (hull_least h1).1 _ (mem_getD hj)
  rw [h] at k
  cases hb : befP (ps.getD j (0, 0)) (ps.getD 0 (0, 0))
  · rfl
  · have := (befP_iff _ _).1 hb
    rcases k with k | k
    · rw [k] at this; omega
    · unfold lxP at k; omega
end Go.Proofs.Ytomnkdlfmjdckaa.Am.Sp

set_option linter.unusedVariables false
set_option linter.unusedSimpArgs false
namespace Go.Proofs.Ytomnkdlfmjdckaa.Am.Sp
open Go
def ahF : List Int → Int → Int
  | [], out => out
  | h :: t, out => if (h == 0) = true then 0 else if (h == 1) = true then ahF t (0 - out) else ahF t out
theorem has_cases (ps : List (Int × Int)) (x y : Int) : hasF ps x y 0 (-1) = 0 ∨ hasF ps x y 0 (-1) = 1 ∨ hasF ps x y 0 (-1) = -1 := by
  cases ps with
  | nil => rw [hasF_end (by simp)]; omega
  | cons a t => rw [hasF_eq]; unfold hasv; (repeat' split) <;> omega
theorem bxo_bd {ps : List (Int × Int)} : ∀ (k : Nat) (i : Nat), i < k → ((bxo ps k).1 ≤ lim 1048576 (ps.getD i (0, 0)).1 ∧ lim 1048576 (ps.getD i (0, 0)).1 ≤ (bxo ps k).2.2.1) ∧ ((bxo ps k).2.1 ≤ lim 1048576 (ps.getD i (0, 0)).2 ∧ lim 1048576 (ps.getD i (0, 0)).2 ≤ (bxo ps k).2.2.2)
  | 0, i, h => by omega
  | k + 1, i, h => by
    by_cases c : k = 0
    · subst c
      have : i = 0 := by omega
      subst this
      rw [bxo_first rfl]
      unfold mn mx
      dsimp only
      (repeat' split) <;> omega
    · rw [bxo_next c]
      dsimp only
      by_cases g : i < k
      · have ih := bxo_bd (ps := ps) k i g
        unfold mn mx
        (repeat' split) <;> omega
      · have : i = k := by omega
        subst this
        unfold mn mx
        (repeat' split) <;> omega
/-- what is in the hull is in the box -/
theorem in_bxo {ps : List (Int × Int)} {x y : Int} (hf : Few 40 ps) (h3 : 2 < (hullF ps).length) (hx : hasH (hullF ps) x y = true) : inbox (bxo ps ps.length).1 (bxo ps ps.length).2.1 (bxo ps ps.length).2.2.1 (bxo ps ps.length).2.2.2 x y = true := by
  have hb : ∀ i, i < (hullF ps).length → ((bxo ps ps.length).1 ≤ ((hullF ps).getD i (0, 0)).1 ∧ ((hullF ps).getD i (0, 0)).1 ≤ (bxo ps ps.length).2.2.1) ∧ ((bxo ps ps.length).2.1 ≤ ((hullF ps).getD i (0, 0)).2 ∧ ((hullF ps).getD i (0, 0)).2 ≤ (bxo ps ps.length).2.2.2) := fun i hi => by
    obtain ⟨j, hj, e⟩ := List.mem_iff_getElem.1 (hull_sub (mem_getD hi))
    have k := bxo_bd (ps := ps) ps.length j hj
    have b := hf j
    rw [lim_id (by omega) (by omega), lim_id (by omega) (by omega), getD_lt hj, e] at k
    exact k
  have a1 := hull_aff (p := (x, y)) (u := 1) (v := 0) (w := -(bxo ps ps.length).1) h3 hx (fun i hi => by have := hb i hi; omega)
  have a2 := hull_aff (p := (x, y)) (u := -1) (v := 0) (w := (bxo ps ps.length).2.2.1) h3 hx (fun i hi => by have := hb i hi; omega)
  have a3 := hull_aff (p := (x, y)) (u := 0) (v := 1) (w := -(bxo ps ps.length).2.1) h3 hx (fun i hi => by have := hb i hi; omega)
  have a4 := hull_aff (p := (x, y)) (u := 0) (v := -1) (w := (bxo ps ps.length).2.2.2) h3 hx (fun i hi => by have := hb i hi; omega)
  dsimp only at a1 a2 a3 a4
  unfold inbox
  rw [decide_eq_true (by omega), decide_eq_true (by omega), decide_eq_true (by omega), decide_eq_true (by omega)]
  rfl
theorem ah_one (ps : List (Int × Int)) (x y : Int) : ahF [hasF ps x y 0 (-1)] (-1) = hasF ps x y 0 (-1) := by
  rcases has_cases ps x y with h | h | h <;> rw [h] <;> rfl
end Go.Proofs.Ytomnkdlfmjdckaa.Am.Sp

namespace Go.Proofs.Ytomnkdlfmjdckaa.Am
open Go Go.Proofs
set_option maxRecDepth 100000
set_option maxHeartbeats 4000000
set_option linter.unusedVariables false
set_option linter.unusedSimpArgs false
theorem Sp.ahF_0 {h o : Int} {t : List Int} (e : h = 0) : Sp.ahF (h :: t) o = 0 := by subst e; rfl
theorem Sp.ahF_1 {h o : Int} {t : List Int} (e : h = 1) : Sp.ahF (h :: t) o = Sp.ahF t (0 - o) := by subst e; rfl
theorem Sp.ahF_n {h o : Int} {t : List Int} (e : ¬ h = 0) (e1 : ¬ h = 1) : Sp.ahF (h :: t) o = Sp.ahF t o := by
  show (if (h == 0) = true then 0 else if (h == 1) = true then Sp.ahF t (0 - o) else Sp.ahF t o) = _
  rw [if_neg (by simpa using e), if_neg (by simpa using e1)]
theorem aw_joinB {ι : Type} {C : Ctx} {P : Program} {S : St} {S1 : ι → St} {x y : Code} {Q : Exit → St → Prop} {K : St → Prop} {id id' : Nat} (F : ι → Prop) (h : ∀ i, F i → AW C P y (S1 i) Q) (k : (∀ i, F i → AW C P y (S1 i) Q) → AW C P x S (blockQ id (blockQ id' (thenQ K Q)))) : AW C P x S (blockQ id (blockQ id' (thenQ K Q))) := k h
theorem ahas_1 (R1 : List (Int × Int)) (zR1 : 1 ≤ R1.length ∧ R1.length ≤ 200) (fR1 : Sp.Few 1000 R1) (px py : Int) :
    AC Try.prog 11 2 ([.slice (some ⟨0, 0, none⟩) 1 0, .agg #[.int .i64 px, .int .i64 py]]) [(0, ⟨[.slice (some ⟨1, 0, none⟩) R1.length 0], 24, true, 1⟩), (1, ⟨(R1.flatMap ptc), 27, true, 2⟩)] (.int .i64 (Sp.ahF [Sp.hasF R1 (Sp.lim 1048576 px) (Sp.lim 1048576 py) 0 (-1)] (-1))) [(0, ⟨[.slice (some ⟨1, 0, none⟩) R1.length 0], 24, true, 1⟩), (1, ⟨(R1.flatMap ptc), 27, true, 2⟩)] := by
  refine ac_in Try.func11 (fun w0 W pin => ?_)
  refine aw_p 3 (
    .a 2 2 <| .nil _ _) ?_
  refine aw_p 7 (
    .a 1 3 <| .nil _ _) ?_
  refine aw_sq 14 15 ?_
  refine aw_p 29 (
    .a 3 3 <| .nil _ _) ?_
  refine aw_bl 0 59 ?_
  refine aw_lp 119 ?_
  refine al_round ?_
  refine aw_p 239 (
    .a 1 3 <| .nil _ _) ?_
  refine aw_sq 478 479 ?_
  refine aw_tr 956 ?_
  refine aw_sk ?_
  refine then_normal ?_
  refine aw_sq 958 959 ?_
  refine aw_bl 1 1917 ?_
  refine aw_p 3835 (
    .a 3 3 <| .nil _ _) ?_
  refine aw_p 7671 (
    .a 2 3 <|
    .p (does_callB (x := .func 8) (ars := #[.tmp 14, .tmp 15]) (ats := #[24, 27]) (g := 8) (vs := [.slice (some ⟨1, 0, none⟩) R1.length 0, .agg #[.int .i64 px, .int .i64 py]]) (m := 1) (r := 0) (firsts := #[]) (caps := #[]) (args0 := [.slice (some ⟨0, 0, none⟩) R1.length 0, .agg #[.int .i64 px, .int .i64 py]]) (pre0 := [(0, ⟨(R1.flatMap ptc), 27, true, 2⟩)]) (post0 := [(0, ⟨(R1.flatMap ptc), 27, true, 2⟩)]) (pre := [(1, ⟨(R1.flatMap ptc), 27, true, 2⟩)]) (post := [(1, ⟨(R1.flatMap ptc), 27, true, 2⟩)]) (v0 := .int .i64 (Sp.hasF R1 (Sp.lim 1048576 px) (Sp.lim 1048576 py) 0 (-1))) (v := .int .i64 (Sp.hasF R1 (Sp.lim 1048576 px) (Sp.lim 1048576 py) 0 (-1))) [1] (by kernel_rfl) (by kernel_rfl) (by kernel_rfl) (by kernel_rfl) (hasn_own R1 R1.length (rfl) (by first | omega | decide) px py) (.cons (.slice _ _ _ _ _ (by decide)) (.cons (.flatB (by kernel_rfl)) .nil)) ⟨rfl, ⟨rfl, rfl, rfl, (.flats (flats_pair _))⟩, trivial⟩ (by kernel_rfl) (by kernel_rfl) (by kernel_rfl) ⟨rfl, ⟨rfl, rfl, rfl, (.flats (flats_pair _))⟩, trivial⟩ (.flatB (by kernel_rfl))) <| .nil _ _) ?_
  refine aw_bl 2 15343 ?_
  refine aw_p 30687 (
    .a 2 3 <| .nil _ _) ?_
  refine aw_cd 61374 61375 ((Sp.hasF R1 (Sp.lim 1048576 px) (Sp.lim 1048576 py) 0 (-1)) == 0) (fun h1 => ?_) (fun h1 => ?_)
  · have h1p : (((Sp.hasF R1 (Sp.lim 1048576 px) (Sp.lim 1048576 py) 0 (-1)) = 0)) := by first | (simpa using h1) | (have h1q := h1; simp at h1q; omega) | (have h1q := bx1 h1; simp at h1q; omega)
    refine aw_p 122749 (
      .a 1 3 <| .nil _ _) ?_
    refine aw_rt ?_
    refine block_ret ?_
    refine block_ret ?_
    refine then_ret ?_
    refine then_ret ?_
    refine block_ret ?_
    refine then_ret ?_
    exact en_ret [.int .i64 0] (show (.int .i64 0 : Value) = (.int .i64 (Sp.ahF [Sp.hasF R1 (Sp.lim 1048576 px) (Sp.lim 1048576 py) 0 (-1)] (-1))) from (congrArg (Value.int .i64) (show 0 = (Sp.ahF [Sp.hasF R1 (Sp.lim 1048576 px) (Sp.lim 1048576 py) 0 (-1)] (-1)) from by (first | exact (Sp.ahF_0 (by assumption)).symm | exact (q1.2).symm | fail))))
  · have h1p : ¬ (((Sp.hasF R1 (Sp.lim 1048576 px) (Sp.lim 1048576 py) 0 (-1)) = 0)) := by first | (simpa using h1) | (have h1q := h1; simp at h1q; omega) | (have h1q := bx2 h1; simp at h1q; omega)
    refine aw_p 122751 (
      .a 2 3 <| .nil _ _) ?_
    refine aw_joinB (y := sb Try.f11 959) (S1 := fun o1 => mkSt 2 [(3, .pointer (some ⟨2, 0, none⟩)), (5, .int .i64 o1), (8, .slice (some ⟨0, 0, none⟩) 1 0), (9, .int .i64 1), (10, .int .i64 0)] [(0, ⟨[.slice (some ⟨1, 0, none⟩) R1.length 0], 24, true, 1⟩), (1, ⟨(R1.flatMap ptc), 27, true, 2⟩), (2, ⟨[.int .i64 px, .int .i64 py], 27, true, 2⟩)]) (fun o1 => (-1 ≤ o1 ∧ o1 ≤ 1) ∧ Sp.ahF [Sp.hasF R1 (Sp.lim 1048576 px) (Sp.lim 1048576 py) 0 (-1)] (-1) = Sp.ahF [] o1) (fun o1 q1 => ?_) (fun K1 => ?_)
    · refine aw_p1 (
        .a 2 3 <| .nil _ _) ?_
      refine then_normal ?_
      refine al_round ?_
      refine aw_p 239 (
        .a 1 3 <| .nil _ _) ?_
      refine aw_sq 478 479 ?_
      refine aw_fl 957 ?_
      refine aw_ex 0 ?_
      refine then_exit ?_
      refine then_exit ?_
      refine block_exit ?_
      refine then_normal ?_
      refine aw_p 31 (
        .a 2 3 <| .nil _ _) ?_
      refine aw_rt ?_
      exact en_ret [.int .i64 o1] (show (.int .i64 o1 : Value) = (.int .i64 (Sp.ahF [Sp.hasF R1 (Sp.lim 1048576 px) (Sp.lim 1048576 py) 0 (-1)] (-1))) from (congrArg (Value.int .i64) (show o1 = (Sp.ahF [Sp.hasF R1 (Sp.lim 1048576 px) (Sp.lim 1048576 py) 0 (-1)] (-1)) from by (first | exact (Sp.ahF_0 (by assumption)).symm | exact (q1.2).symm | fail))))
    · refine aw_cd 245502 245503 ((Sp.hasF R1 (Sp.lim 1048576 px) (Sp.lim 1048576 py) 0 (-1)) == 1) (fun h2 => ?_) (fun h2 => ?_)
      · have h2p : (((Sp.hasF R1 (Sp.lim 1048576 px) (Sp.lim 1048576 py) 0 (-1)) = 1)) := by first | (simpa using h2) | (have h2q := h2; simp at h2q; omega) | (have h2q := bx1 h2; simp at h2q; omega)
        refine aw_p1 (
          .a 3 3 <| .nil _ _) ?_
        refine block_normal ?_
        refine block_normal ?_
        refine then_normal ?_
        refine aw_w [(3, .pointer (some ⟨2, 0, none⟩)), (5, .int .i64 1), (8, .slice (some ⟨0, 0, none⟩) 1 0), (9, .int .i64 1), (10, .int .i64 0)] [(0, ⟨[.slice (some ⟨1, 0, none⟩) R1.length 0], 24, true, 1⟩), (1, ⟨(R1.flatMap ptc), 27, true, 2⟩), (2, ⟨[.int .i64 px, .int .i64 py], 27, true, 2⟩)] ?_ (hc := (by simp [closedB, valsB, valB, List.all_eq_true, List.mem_flatMap, List.mem_range, List.mem_map, i64v, ptc, flat1]; try (intros; simp [valsB, valB, flat1]); try decide))
        exact K1 1 ⟨(by omega), Sp.ahF_1 h2p⟩
      · have h2p : ¬ (((Sp.hasF R1 (Sp.lim 1048576 px) (Sp.lim 1048576 py) 0 (-1)) = 1)) := by first | (simpa using h2) | (have h2q := h2; simp at h2q; omega) | (have h2q := bx2 h2; simp at h2q; omega)
        refine aw_sk ?_
        refine block_normal ?_
        refine block_normal ?_
        refine then_normal ?_
        refine aw_w [(3, .pointer (some ⟨2, 0, none⟩)), (5, .int .i64 (-1)), (8, .slice (some ⟨0, 0, none⟩) 1 0), (9, .int .i64 1), (10, .int .i64 0)] [(0, ⟨[.slice (some ⟨1, 0, none⟩) R1.length 0], 24, true, 1⟩), (1, ⟨(R1.flatMap ptc), 27, true, 2⟩), (2, ⟨[.int .i64 px, .int .i64 py], 27, true, 2⟩)] ?_ (hc := (by simp [closedB, valsB, valB, List.all_eq_true, List.mem_flatMap, List.mem_range, List.mem_map, i64v, ptc, flat1]; try (intros; simp [valsB, valB, flat1]); try decide))
        exact K1 (-1) ⟨(by omega), Sp.ahF_n (by assumption) h2p⟩
end Go.Proofs.Ytomnkdlfmjdckaa.Am

namespace Go.Proofs.Ytomnkdlfmjdckaa.Am
open Go Go.Proofs
set_option maxRecDepth 100000
set_option maxHeartbeats 4000000
set_option linter.unusedVariables false
set_option linter.unusedSimpArgs false
theorem join_ok (ax ay az aw bx b_y bz bw : Int) :
    AC Try.prog 45 0 ([.agg #[.int .i64 ax, .int .i64 ay, .int .i64 az, .int .i64 aw], .agg #[.int .i64 bx, .int .i64 b_y, .int .i64 bz, .int .i64 bw]]) [] (.agg #[.int .i64 (Sp.mn ax bx), .int .i64 (Sp.mn ay b_y), .int .i64 (Sp.mx az bz), .int .i64 (Sp.mx aw bw)]) [] := by
  refine ac_in Try.func45 (fun w0 W pin => ?_)
  refine aw_p 3 (
    .a 3 1 <| .nil _ _) ?_
  refine aw_p 7 (
    .a 32 4 <| .nil _ _) ?_
  refine aw_w [(4, .pointer (some ⟨3, 0, none⟩))] [(3, ⟨[.int .i64 (Sp.mn ax bx), .int .i64 (Sp.mn ay b_y), .int .i64 (Sp.mx az bz), .int .i64 (Sp.mx aw bw)], 41, true, 4⟩)] ?_
  refine aw_rt ?_
  exact en_ret [.agg #[.int .i64 (Sp.mn ax bx), .int .i64 (Sp.mn ay b_y), .int .i64 (Sp.mx az bz), .int .i64 (Sp.mx aw bw)]] (by kernel_rfl)
theorem boxof_ro (ps : List (Int × Int)) (hz : ps.length ≤ 9223372036854775807) :
    AC Try.prog 17 1 ([.slice (some ⟨0, 0, none⟩) ps.length 0]) [(0, ⟨(ps.flatMap ptc), 27, false, 2⟩)] (.agg #[.int .i64 ((Sp.bxo ps ps.length).1), .int .i64 ((Sp.bxo ps ps.length).2.1), .int .i64 ((Sp.bxo ps ps.length).2.2.1), .int .i64 ((Sp.bxo ps ps.length).2.2.2)]) [] := by
  refine ac_in Try.func17 (fun w0 W pin => ?_)
  refine aw_p 3 (
    .a 1 1 <| .nil _ _) ?_
  refine aw_p 7 (
    .a 1 2 <| .nil _ _) ?_
  refine aw_sq 14 15 ?_
  refine aw_p 29 (
    .a 3 3 <| .nil _ _) ?_
  refine aw_bl 0 59 ?_
  refine aw_lp 119 ?_
  refine al_w [(2, .pointer (some ⟨1, 0, none⟩)), (3, .pointer (some ⟨2, 0, none⟩)), (6, .slice (some ⟨0, 0, none⟩) ps.length 0), (7, .int .i64 ((ps.length : Nat) : Int)), (8, .int .i64 ((0 : Nat) : Int))] [(0, ⟨(ps.flatMap ptc), 27, false, 2⟩), (1, ⟨[.int .i64 0, .int .i64 0, .int .i64 0, .int .i64 0], 41, true, 4⟩), (2, ⟨[.int .i64 0, .int .i64 0, .int .i64 0, .int .i64 0], 41, true, 4⟩)] ?_ (hc := (by simp [closedB, valsB, valB, List.all_eq_true, List.mem_flatMap, ptc, flat1]; try decide))
  refine al_ind (fun i : Nat × Int × Int × Int × Int => (fun (i : Nat) (a : Int) (b : Int) (c : Int) (d : Int) => mkSt 1 [(2, .pointer (some ⟨1, 0, none⟩)), (3, .pointer (some ⟨2, 0, none⟩)), (6, .slice (some ⟨0, 0, none⟩) ps.length 0), (7, .int .i64 ((ps.length : Nat) : Int)), (8, .int .i64 ((i : Nat) : Int))] [(0, ⟨(ps.flatMap ptc), 27, false, 2⟩), (1, ⟨[.int .i64 0, .int .i64 0, .int .i64 0, .int .i64 0], 41, true, 4⟩), (2, ⟨[.int .i64 a, .int .i64 b, .int .i64 c, .int .i64 d], 41, true, 4⟩)]) i.1 i.2.1 i.2.2.1 i.2.2.2.1 i.2.2.2.2) (fun i : Nat × Int × Int × Int × Int => (fun (i : Nat) (a : Int) (b : Int) (c : Int) (d : Int) => (i ≤ ps.length) ∧ (a = (Sp.bxo ps i).1) ∧ (b = (Sp.bxo ps i).2.1) ∧ (c = (Sp.bxo ps i).2.2.1) ∧ (d = (Sp.bxo ps i).2.2.2)) i.1 i.2.1 i.2.2.1 i.2.2.2.1 i.2.2.2.2) (fun i : Nat × Int × Int × Int × Int => (fun (i : Nat) (a : Int) (b : Int) (c : Int) (d : Int) => ps.length - i) i.1 i.2.1 i.2.2.1 i.2.2.2.1 i.2.2.2.2) (fun i hi1 ih1 => ?_) (0, 0, 0, 0, 0) (show (0 ≤ ps.length) ∧ (0 = (Sp.bxo ps 0).1) ∧ (0 = (Sp.bxo ps 0).2.1) ∧ (0 = (Sp.bxo ps 0).2.2.1) ∧ (0 = (Sp.bxo ps 0).2.2.2) from ⟨by omega, by rfl, by rfl, by rfl, by rfl⟩)
  obtain ⟨i, a, b, c, d⟩ := i
  have hi1' : (i ≤ ps.length) ∧ (a = (Sp.bxo ps i).1) ∧ (b = (Sp.bxo ps i).2.1) ∧ (c = (Sp.bxo ps i).2.2.1) ∧ (d = (Sp.bxo ps i).2.2.2) := hi1
  obtain ⟨hi, ha, hb, hc, hd⟩ := hi1'
  show AL _ _ _ (mkSt 1 [(2, .pointer (some ⟨1, 0, none⟩)), (3, .pointer (some ⟨2, 0, none⟩)), (6, .slice (some ⟨0, 0, none⟩) ps.length 0), (7, .int .i64 ((ps.length : Nat) : Int)), (8, .int .i64 ((i : Nat) : Int))] [(0, ⟨(ps.flatMap ptc), 27, false, 2⟩), (1, ⟨[.int .i64 0, .int .i64 0, .int .i64 0, .int .i64 0], 41, true, 4⟩), (2, ⟨[.int .i64 a, .int .i64 b, .int .i64 c, .int .i64 d], 41, true, 4⟩)]) _
  refine al_round ?_
  refine aw_p 239 (
    .a 1 3 <| .nil _ _) ?_
  refine aw_sq 478 479 ?_
  refine aw_cd 956 957 (decide (((i : Nat) : Int) < ((ps.length : Nat) : Int))) (fun h1 => ?_) (fun h1 => ?_)
  · have h1p : ((((i : Nat) : Int) < ((ps.length : Nat) : Int))) := by first | (simpa using h1) | (have h1q := h1; simp at h1q; omega) | (have h1q := bx1 h1; simp at h1q; omega)
    refine aw_sk ?_
    refine then_normal ?_
    refine aw_sq 958 959 ?_
    refine aw_bl 1 1917 ?_
    refine aw_p 3835 (
      .a 1 3 <| .p (does_indexSlice (t := 24) (x := .tmp 6) (y := .tmp 8) (k := 0) (off := 0) (n := ps.length) (c := 0) (z := 2) (kd := .i64) (j := ((i : Nat) : Int)) (by kernel_rfl) (by kernel_rfl) (by kernel_rfl) (by kernel_rfl) (by kernel_rfl) (by omega) (by omega)) <|
      .p (does_load (t := 27) (x := .tmp 11) (k := 0) (off := (0 + (((i : Nat) : Int)).toNat * 2)) (b := ⟨(ps.flatMap ptc), 27, false, 2⟩) (v := .agg #[.int .i64 ((ps.getD i (0, 0)).1), .int .i64 ((ps.getD i (0, 0)).2)]) (by kernel_rfl) (by kernel_rfl) (by kernel_rfl) (ldV_pair (j := i) (by kernel_rfl) (by kernel_rfl) (by omega) (by omega))) <|
      .a 3 3 <| .nil _ _) ?_
    refine aw_p 7671 (
      .a 1 4 <| .p (does_c (clamp_ok ((ps.getD i (0, 0)).1) ((ps.getD i (0, 0)).2))) <| .a 1 4 <| .nil _ _) ?_
    refine aw_sq 15342 15343 ?_
    refine aw_p 30685 (
      .a 2 4 <| .nil _ _) ?_
    refine aw_cd 61370 61371 (((i : Nat) : Int) == 0) (fun h2 => ?_) (fun h2 => ?_)
    · have h2p : ((((i : Nat) : Int) = 0)) := by first | (simpa using h2) | (have h2q := h2; simp at h2q; omega) | (have h2q := bx1 h2; simp at h2q; omega)
      refine aw_p1 (
        .a 4 4 <| .nil _ _) ?_
      refine then_normal ?_
      refine aw_p1 (
        .a 4 4 <|
        .p (does_c (join_ok (Sp.lim 1048576 ((ps.getD i (0, 0)).1)) (Sp.lim 1048576 ((ps.getD i (0, 0)).2)) (Sp.lim 1048576 ((ps.getD i (0, 0)).1)) (Sp.lim 1048576 ((ps.getD i (0, 0)).2)) (Sp.lim 1048576 ((ps.getD i (0, 0)).1)) (Sp.lim 1048576 ((ps.getD i (0, 0)).2)) (Sp.lim 1048576 ((ps.getD i (0, 0)).1)) (Sp.lim 1048576 ((ps.getD i (0, 0)).2)))) <|
        .a 1 4 <| .nil _ _) ?_
      refine block_normal ?_
      refine then_normal ?_
      refine aw_p1 (
        .p (does_i (((i : Nat) : Int) + 1) (wrap_i64 (by omega) (by omega)) .i64) <| .a 1 4 <| .nil _ _) ?_
      refine then_normal ?_
      refine al_w [(2, .pointer (some ⟨1, 0, none⟩)), (3, .pointer (some ⟨2, 0, none⟩)), (6, .slice (some ⟨0, 0, none⟩) ps.length 0), (7, .int .i64 ((ps.length : Nat) : Int)), (8, .int .i64 (((i + 1) : Nat) : Int))] [(0, ⟨(ps.flatMap ptc), 27, false, 2⟩), (1, ⟨[.int .i64 0, .int .i64 0, .int .i64 0, .int .i64 0], 41, true, 4⟩), (2, ⟨[.int .i64 (Sp.mn (Sp.lim 1048576 ((ps.getD i (0, 0)).1)) (Sp.lim 1048576 ((ps.getD i (0, 0)).1))), .int .i64 (Sp.mn (Sp.lim 1048576 ((ps.getD i (0, 0)).2)) (Sp.lim 1048576 ((ps.getD i (0, 0)).2))), .int .i64 (Sp.mx (Sp.lim 1048576 ((ps.getD i (0, 0)).1)) (Sp.lim 1048576 ((ps.getD i (0, 0)).1))), .int .i64 (Sp.mx (Sp.lim 1048576 ((ps.getD i (0, 0)).2)) (Sp.lim 1048576 ((ps.getD i (0, 0)).2)))], 41, true, 4⟩)] ?_ (hc := (by simp [closedB, valsB, valB, List.all_eq_true, List.mem_flatMap, ptc, flat1]; try decide))
      exact ih1 ((i + 1), (Sp.mn (Sp.lim 1048576 ((ps.getD i (0, 0)).1)) (Sp.lim 1048576 ((ps.getD i (0, 0)).1))), (Sp.mn (Sp.lim 1048576 ((ps.getD i (0, 0)).2)) (Sp.lim 1048576 ((ps.getD i (0, 0)).2))), (Sp.mx (Sp.lim 1048576 ((ps.getD i (0, 0)).1)) (Sp.lim 1048576 ((ps.getD i (0, 0)).1))), (Sp.mx (Sp.lim 1048576 ((ps.getD i (0, 0)).2)) (Sp.lim 1048576 ((ps.getD i (0, 0)).2)))) (show ((i + 1) ≤ ps.length) ∧ ((Sp.mn (Sp.lim 1048576 ((ps.getD i (0, 0)).1)) (Sp.lim 1048576 ((ps.getD i (0, 0)).1))) = (Sp.bxo ps (i + 1)).1) ∧ ((Sp.mn (Sp.lim 1048576 ((ps.getD i (0, 0)).2)) (Sp.lim 1048576 ((ps.getD i (0, 0)).2))) = (Sp.bxo ps (i + 1)).2.1) ∧ ((Sp.mx (Sp.lim 1048576 ((ps.getD i (0, 0)).1)) (Sp.lim 1048576 ((ps.getD i (0, 0)).1))) = (Sp.bxo ps (i + 1)).2.2.1) ∧ ((Sp.mx (Sp.lim 1048576 ((ps.getD i (0, 0)).2)) (Sp.lim 1048576 ((ps.getD i (0, 0)).2))) = (Sp.bxo ps (i + 1)).2.2.2) from ⟨by omega, by (first | (rw [Sp.bxo_first (by omega)]) | (rw [Sp.bxo_next (by omega), ← ha, ← hb, ← hc, ← hd])), by (first | (rw [Sp.bxo_first (by omega)]) | (rw [Sp.bxo_next (by omega), ← ha, ← hb, ← hc, ← hd])), by (first | (rw [Sp.bxo_first (by omega)]) | (rw [Sp.bxo_next (by omega), ← ha, ← hb, ← hc, ← hd])), by (first | (rw [Sp.bxo_first (by omega)]) | (rw [Sp.bxo_next (by omega), ← ha, ← hb, ← hc, ← hd]))⟩) (show ps.length - (i + 1) < ps.length - i from by omega)
    · have h2p : ¬ ((((i : Nat) : Int) = 0)) := by first | (simpa using h2) | (have h2q := h2; simp at h2q; omega) | (have h2q := bx2 h2; simp at h2q; omega)
      refine aw_sk ?_
      refine then_normal ?_
      refine aw_p1 (
        .a 4 4 <| .p (does_c (join_ok a b c d (Sp.lim 1048576 ((ps.getD i (0, 0)).1)) (Sp.lim 1048576 ((ps.getD i (0, 0)).2)) (Sp.lim 1048576 ((ps.getD i (0, 0)).1)) (Sp.lim 1048576 ((ps.getD i (0, 0)).2)))) <| .a 1 4 <| .nil _ _) ?_
      refine block_normal ?_
      refine then_normal ?_
      refine aw_p1 (
        .p (does_i (((i : Nat) : Int) + 1) (wrap_i64 (by omega) (by omega)) .i64) <| .a 1 4 <| .nil _ _) ?_
      refine then_normal ?_
      refine al_w [(2, .pointer (some ⟨1, 0, none⟩)), (3, .pointer (some ⟨2, 0, none⟩)), (6, .slice (some ⟨0, 0, none⟩) ps.length 0), (7, .int .i64 ((ps.length : Nat) : Int)), (8, .int .i64 (((i + 1) : Nat) : Int))] [(0, ⟨(ps.flatMap ptc), 27, false, 2⟩), (1, ⟨[.int .i64 0, .int .i64 0, .int .i64 0, .int .i64 0], 41, true, 4⟩), (2, ⟨[.int .i64 (Sp.mn a (Sp.lim 1048576 ((ps.getD i (0, 0)).1))), .int .i64 (Sp.mn b (Sp.lim 1048576 ((ps.getD i (0, 0)).2))), .int .i64 (Sp.mx c (Sp.lim 1048576 ((ps.getD i (0, 0)).1))), .int .i64 (Sp.mx d (Sp.lim 1048576 ((ps.getD i (0, 0)).2)))], 41, true, 4⟩)] ?_ (hc := (by simp [closedB, valsB, valB, List.all_eq_true, List.mem_flatMap, ptc, flat1]; try decide))
      exact ih1 ((i + 1), (Sp.mn a (Sp.lim 1048576 ((ps.getD i (0, 0)).1))), (Sp.mn b (Sp.lim 1048576 ((ps.getD i (0, 0)).2))), (Sp.mx c (Sp.lim 1048576 ((ps.getD i (0, 0)).1))), (Sp.mx d (Sp.lim 1048576 ((ps.getD i (0, 0)).2)))) (show ((i + 1) ≤ ps.length) ∧ ((Sp.mn a (Sp.lim 1048576 ((ps.getD i (0, 0)).1))) = (Sp.bxo ps (i + 1)).1) ∧ ((Sp.mn b (Sp.lim 1048576 ((ps.getD i (0, 0)).2))) = (Sp.bxo ps (i + 1)).2.1) ∧ ((Sp.mx c (Sp.lim 1048576 ((ps.getD i (0, 0)).1))) = (Sp.bxo ps (i + 1)).2.2.1) ∧ ((Sp.mx d (Sp.lim 1048576 ((ps.getD i (0, 0)).2))) = (Sp.bxo ps (i + 1)).2.2.2) from ⟨by omega, by (first | (rw [Sp.bxo_first (by omega)]) | (rw [Sp.bxo_next (by omega), ← ha, ← hb, ← hc, ← hd])), by (first | (rw [Sp.bxo_first (by omega)]) | (rw [Sp.bxo_next (by omega), ← ha, ← hb, ← hc, ← hd])), by (first | (rw [Sp.bxo_first (by omega)]) | (rw [Sp.bxo_next (by omega), ← ha, ← hb, ← hc, ← hd])), by (first | (rw [Sp.bxo_first (by omega)]) | (rw [Sp.bxo_next (by omega), ← ha, ← hb, ← hc, ← hd]))⟩) (show ps.length - (i + 1) < ps.length - i from by omega)
  · have h1p : ¬ ((((i : Nat) : Int) < ((ps.length : Nat) : Int))) := by first | (simpa using h1) | (have h1q := h1; simp at h1q; omega) | (have h1q := bx2 h1; simp at h1q; omega)
    have hl : i = ps.length := by omega
    have ha' : a = (Sp.bxo ps ps.length).1 := by rw [ha, hl]
    have hb' : b = (Sp.bxo ps ps.length).2.1 := by rw [hb, hl]
    have hc' : c = (Sp.bxo ps ps.length).2.2.1 := by rw [hc, hl]
    have hd' : d = (Sp.bxo ps ps.length).2.2.2 := by rw [hd, hl]
    refine aw_ex 0 ?_
    refine then_exit ?_
    refine then_exit ?_
    refine block_exit ?_
    refine then_normal ?_
    refine aw_p 31 (
      .a 2 3 <| .nil _ _) ?_
    refine aw_rt ?_
    exact en_ret [.agg #[.int .i64 a, .int .i64 b, .int .i64 c, .int .i64 d]] (show (.agg #[.int .i64 a, .int .i64 b, .int .i64 c, .int .i64 d] : Value) = (.agg #[.int .i64 ((Sp.bxo ps ps.length).1), .int .i64 ((Sp.bxo ps ps.length).2.1), .int .i64 ((Sp.bxo ps ps.length).2.2.1), .int .i64 ((Sp.bxo ps ps.length).2.2.2)]) from (congrArg (fun z : List Value => Value.agg z.toArray) (lcons (congrArg (Value.int .i64) (show a = ((Sp.bxo ps ps.length).1) from by (first | exact ha' | exact hb' | exact hc' | exact hd'))) (lcons (congrArg (Value.int .i64) (show b = ((Sp.bxo ps ps.length).2.1) from by (first | exact ha' | exact hb' | exact hc' | exact hd'))) (lcons (congrArg (Value.int .i64) (show c = ((Sp.bxo ps ps.length).2.2.1) from by (first | exact ha' | exact hb' | exact hc' | exact hd'))) (lcons (congrArg (Value.int .i64) (show d = ((Sp.bxo ps ps.length).2.2.2) from by (first | exact ha' | exact hb' | exact hc' | exact hd'))) rfl))))))
theorem boxof_own (ps : List (Int × Int)) (hz : ps.length ≤ 9223372036854775807) :
    AC Try.prog 17 1 ([.slice (some ⟨0, 0, none⟩) ps.length 0]) [(0, ⟨(ps.flatMap ptc), 27, true, 2⟩)] (.agg #[.int .i64 ((Sp.bxo ps ps.length).1), .int .i64 ((Sp.bxo ps ps.length).2.1), .int .i64 ((Sp.bxo ps ps.length).2.2.1), .int .i64 ((Sp.bxo ps ps.length).2.2.2)]) [(0, ⟨(ps.flatMap ptc), 27, true, 2⟩)] := by
  refine ac_in Try.func17 (fun w0 W pin => ?_)
  refine aw_p 3 (
    .a 1 1 <| .nil _ _) ?_
  refine aw_p 7 (
    .a 1 2 <| .nil _ _) ?_
  refine aw_sq 14 15 ?_
  refine aw_p 29 (
    .a 3 3 <| .nil _ _) ?_
  refine aw_bl 0 59 ?_
  refine aw_lp 119 ?_
  refine al_w [(2, .pointer (some ⟨1, 0, none⟩)), (3, .pointer (some ⟨2, 0, none⟩)), (6, .slice (some ⟨0, 0, none⟩) ps.length 0), (7, .int .i64 ((ps.length : Nat) : Int)), (8, .int .i64 ((0 : Nat) : Int))] [(0, ⟨(ps.flatMap ptc), 27, true, 2⟩), (1, ⟨[.int .i64 0, .int .i64 0, .int .i64 0, .int .i64 0], 41, true, 4⟩), (2, ⟨[.int .i64 0, .int .i64 0, .int .i64 0, .int .i64 0], 41, true, 4⟩)] ?_ (hc := (by simp [closedB, valsB, valB, List.all_eq_true, List.mem_flatMap, ptc, flat1]; try decide))
  refine al_ind (fun i : Nat × Int × Int × Int × Int => (fun (i : Nat) (a : Int) (b : Int) (c : Int) (d : Int) => mkSt 1 [(2, .pointer (some ⟨1, 0, none⟩)), (3, .pointer (some ⟨2, 0, none⟩)), (6, .slice (some ⟨0, 0, none⟩) ps.length 0), (7, .int .i64 ((ps.length : Nat) : Int)), (8, .int .i64 ((i : Nat) : Int))] [(0, ⟨(ps.flatMap ptc), 27, true, 2⟩), (1, ⟨[.int .i64 0, .int .i64 0, .int .i64 0, .int .i64 0], 41, true, 4⟩), (2, ⟨[.int .i64 a, .int .i64 b, .int .i64 c, .int .i64 d], 41, true, 4⟩)]) i.1 i.2.1 i.2.2.1 i.2.2.2.1 i.2.2.2.2) (fun i : Nat × Int × Int × Int × Int => (fun (i : Nat) (a : Int) (b : Int) (c : Int) (d : Int) => (i ≤ ps.length) ∧ (a = (Sp.bxo ps i).1) ∧ (b = (Sp.bxo ps i).2.1) ∧ (c = (Sp.bxo ps i).2.2.1) ∧ (d = (Sp.bxo ps i).2.2.2)) i.1 i.2.1 i.2.2.1 i.2.2.2.1 i.2.2.2.2) (fun i : Nat × Int × Int × Int × Int => (fun (i : Nat) (a : Int) (b : Int) (c : Int) (d : Int) => ps.length - i) i.1 i.2.1 i.2.2.1 i.2.2.2.1 i.2.2.2.2) (fun i hi1 ih1 => ?_) (0, 0, 0, 0, 0) (show (0 ≤ ps.length) ∧ (0 = (Sp.bxo ps 0).1) ∧ (0 = (Sp.bxo ps 0).2.1) ∧ (0 = (Sp.bxo ps 0).2.2.1) ∧ (0 = (Sp.bxo ps 0).2.2.2) from ⟨by omega, by rfl, by rfl, by rfl, by rfl⟩)
  obtain ⟨i, a, b, c, d⟩ := i
  have hi1' : (i ≤ ps.length) ∧ (a = (Sp.bxo ps i).1) ∧ (b = (Sp.bxo ps i).2.1) ∧ (c = (Sp.bxo ps i).2.2.1) ∧ (d = (Sp.bxo ps i).2.2.2) := hi1
  obtain ⟨hi, ha, hb, hc, hd⟩ := hi1'
  show AL _ _ _ (mkSt 1 [(2, .pointer (some ⟨1, 0, none⟩)), (3, .pointer (some ⟨2, 0, none⟩)), (6, .slice (some ⟨0, 0, none⟩) ps.length 0), (7, .int .i64 ((ps.length : Nat) : Int)), (8, .int .i64 ((i : Nat) : Int))] [(0, ⟨(ps.flatMap ptc), 27, true, 2⟩), (1, ⟨[.int .i64 0, .int .i64 0, .int .i64 0, .int .i64 0], 41, true, 4⟩), (2, ⟨[.int .i64 a, .int .i64 b, .int .i64 c, .int .i64 d], 41, true, 4⟩)]) _
  refine al_round ?_
  refine aw_p 239 (
    .a 1 3 <| .nil _ _) ?_
  refine aw_sq 478 479 ?_
  refine aw_cd 956 957 (decide (((i : Nat) : Int) < ((ps.length : Nat) : Int))) (fun h1 => ?_) (fun h1 => ?_)
  · have h1p : ((((i : Nat) : Int) < ((ps.length : Nat) : Int))) := by first | (simpa using h1) | (have h1q := h1; simp at h1q; omega) | (have h1q := bx1 h1; simp at h1q; omega)
    refine aw_sk ?_
    refine then_normal ?_
    refine aw_sq 958 959 ?_
    refine aw_bl 1 1917 ?_
    refine aw_p 3835 (
      .a 1 3 <| .p (does_indexSlice (t := 24) (x := .tmp 6) (y := .tmp 8) (k := 0) (off := 0) (n := ps.length) (c := 0) (z := 2) (kd := .i64) (j := ((i : Nat) : Int)) (by kernel_rfl) (by kernel_rfl) (by kernel_rfl) (by kernel_rfl) (by kernel_rfl) (by omega) (by omega)) <|
      .p (does_load (t := 27) (x := .tmp 11) (k := 0) (off := (0 + (((i : Nat) : Int)).toNat * 2)) (b := ⟨(ps.flatMap ptc), 27, true, 2⟩) (v := .agg #[.int .i64 ((ps.getD i (0, 0)).1), .int .i64 ((ps.getD i (0, 0)).2)]) (by kernel_rfl) (by kernel_rfl) (by kernel_rfl) (ldV_pair (j := i) (by kernel_rfl) (by kernel_rfl) (by omega) (by omega))) <|
      .a 3 3 <| .nil _ _) ?_
    refine aw_p 7671 (
      .a 1 4 <| .p (does_c (clamp_ok ((ps.getD i (0, 0)).1) ((ps.getD i (0, 0)).2))) <| .a 1 4 <| .nil _ _) ?_
    refine aw_sq 15342 15343 ?_
    refine aw_p 30685 (
      .a 2 4 <| .nil _ _) ?_
    refine aw_cd 61370 61371 (((i : Nat) : Int) == 0) (fun h2 => ?_) (fun h2 => ?_)
    · have h2p : ((((i : Nat) : Int) = 0)) := by first | (simpa using h2) | (have h2q := h2; simp at h2q; omega) | (have h2q := bx1 h2; simp at h2q; omega)
      refine aw_p1 (
        .a 4 4 <| .nil _ _) ?_
      refine then_normal ?_
      refine aw_p1 (
        .a 4 4 <|
        .p (does_c (join_ok (Sp.lim 1048576 ((ps.getD i (0, 0)).1)) (Sp.lim 1048576 ((ps.getD i (0, 0)).2)) (Sp.lim 1048576 ((ps.getD i (0, 0)).1)) (Sp.lim 1048576 ((ps.getD i (0, 0)).2)) (Sp.lim 1048576 ((ps.getD i (0, 0)).1)) (Sp.lim 1048576 ((ps.getD i (0, 0)).2)) (Sp.lim 1048576 ((ps.getD i (0, 0)).1)) (Sp.lim 1048576 ((ps.getD i (0, 0)).2)))) <|
        .a 1 4 <| .nil _ _) ?_
      refine block_normal ?_
      refine then_normal ?_
      refine aw_p1 (
        .p (does_i (((i : Nat) : Int) + 1) (wrap_i64 (by omega) (by omega)) .i64) <| .a 1 4 <| .nil _ _) ?_
      refine then_normal ?_
      refine al_w [(2, .pointer (some ⟨1, 0, none⟩)), (3, .pointer (some ⟨2, 0, none⟩)), (6, .slice (some ⟨0, 0, none⟩) ps.length 0), (7, .int .i64 ((ps.length : Nat) : Int)), (8, .int .i64 (((i + 1) : Nat) : Int))] [(0, ⟨(ps.flatMap ptc), 27, true, 2⟩), (1, ⟨[.int .i64 0, .int .i64 0, .int .i64 0, .int .i64 0], 41, true, 4⟩), (2, ⟨[.int .i64 (Sp.mn (Sp.lim 1048576 ((ps.getD i (0, 0)).1)) (Sp.lim 1048576 ((ps.getD i (0, 0)).1))), .int .i64 (Sp.mn (Sp.lim 1048576 ((ps.getD i (0, 0)).2)) (Sp.lim 1048576 ((ps.getD i (0, 0)).2))), .int .i64 (Sp.mx (Sp.lim 1048576 ((ps.getD i (0, 0)).1)) (Sp.lim 1048576 ((ps.getD i (0, 0)).1))), .int .i64 (Sp.mx (Sp.lim 1048576 ((ps.getD i (0, 0)).2)) (Sp.lim 1048576 ((ps.getD i (0, 0)).2)))], 41, true, 4⟩)] ?_ (hc := (by simp [closedB, valsB, valB, List.all_eq_true, List.mem_flatMap, ptc, flat1]; try decide))
      exact ih1 ((i + 1), (Sp.mn (Sp.lim 1048576 ((ps.getD i (0, 0)).1)) (Sp.lim 1048576 ((ps.getD i (0, 0)).1))), (Sp.mn (Sp.lim 1048576 ((ps.getD i (0, 0)).2)) (Sp.lim 1048576 ((ps.getD i (0, 0)).2))), (Sp.mx (Sp.lim 1048576 ((ps.getD i (0, 0)).1)) (Sp.lim 1048576 ((ps.getD i (0, 0)).1))), (Sp.mx (Sp.lim 1048576 ((ps.getD i (0, 0)).2)) (Sp.lim 1048576 ((ps.getD i (0, 0)).2)))) (show ((i + 1) ≤ ps.length) ∧ ((Sp.mn (Sp.lim 1048576 ((ps.getD i (0, 0)).1)) (Sp.lim 1048576 ((ps.getD i (0, 0)).1))) = (Sp.bxo ps (i + 1)).1) ∧ ((Sp.mn (Sp.lim 1048576 ((ps.getD i (0, 0)).2)) (Sp.lim 1048576 ((ps.getD i (0, 0)).2))) = (Sp.bxo ps (i + 1)).2.1) ∧ ((Sp.mx (Sp.lim 1048576 ((ps.getD i (0, 0)).1)) (Sp.lim 1048576 ((ps.getD i (0, 0)).1))) = (Sp.bxo ps (i + 1)).2.2.1) ∧ ((Sp.mx (Sp.lim 1048576 ((ps.getD i (0, 0)).2)) (Sp.lim 1048576 ((ps.getD i (0, 0)).2))) = (Sp.bxo ps (i + 1)).2.2.2) from ⟨by omega, by (first | (rw [Sp.bxo_first (by omega)]) | (rw [Sp.bxo_next (by omega), ← ha, ← hb, ← hc, ← hd])), by (first | (rw [Sp.bxo_first (by omega)]) | (rw [Sp.bxo_next (by omega), ← ha, ← hb, ← hc, ← hd])), by (first | (rw [Sp.bxo_first (by omega)]) | (rw [Sp.bxo_next (by omega), ← ha, ← hb, ← hc, ← hd])), by (first | (rw [Sp.bxo_first (by omega)]) | (rw [Sp.bxo_next (by omega), ← ha, ← hb, ← hc, ← hd]))⟩) (show ps.length - (i + 1) < ps.length - i from by omega)
    · have h2p : ¬ ((((i : Nat) : Int) = 0)) := by first | (simpa using h2) | (have h2q := h2; simp at h2q; omega) | (have h2q := bx2 h2; simp at h2q; omega)
      refine aw_sk ?_
      refine then_normal ?_
      refine aw_p1 (
        .a 4 4 <| .p (does_c (join_ok a b c d (Sp.lim 1048576 ((ps.getD i (0, 0)).1)) (Sp.lim 1048576 ((ps.getD i (0, 0)).2)) (Sp.lim 1048576 ((ps.getD i (0, 0)).1)) (Sp.lim 1048576 ((ps.getD i (0, 0)).2)))) <| .a 1 4 <| .nil _ _) ?_
      refine block_normal ?_
      refine then_normal ?_
      refine aw_p1 (
        .p (does_i (((i : Nat) : Int) + 1) (wrap_i64 (by omega) (by omega)) .i64) <| .a 1 4 <| .nil _ _) ?_
      refine then_normal ?_
      refine al_w [(2, .pointer (some ⟨1, 0, none⟩)), (3, .pointer (some ⟨2, 0, none⟩)), (6, .slice (some ⟨0, 0, none⟩) ps.length 0), (7, .int .i64 ((ps.length : Nat) : Int)), (8, .int .i64 (((i + 1) : Nat) : Int))] [(0, ⟨(ps.flatMap ptc), 27, true, 2⟩), (1, ⟨[.int .i64 0, .int .i64 0, .int .i64 0, .int .i64 0], 41, true, 4⟩), (2, ⟨[.int .i64 (Sp.mn a (Sp.lim 1048576 ((ps.getD i (0, 0)).1))), .int .i64 (Sp.mn b (Sp.lim 1048576 ((ps.getD i (0, 0)).2))), .int .i64 (Sp.mx c (Sp.lim 1048576 ((ps.getD i (0, 0)).1))), .int .i64 (Sp.mx d (Sp.lim 1048576 ((ps.getD i (0, 0)).2)))], 41, true, 4⟩)] ?_ (hc := (by simp [closedB, valsB, valB, List.all_eq_true, List.mem_flatMap, ptc, flat1]; try decide))
      exact ih1 ((i + 1), (Sp.mn a (Sp.lim 1048576 ((ps.getD i (0, 0)).1))), (Sp.mn b (Sp.lim 1048576 ((ps.getD i (0, 0)).2))), (Sp.mx c (Sp.lim 1048576 ((ps.getD i (0, 0)).1))), (Sp.mx d (Sp.lim 1048576 ((ps.getD i (0, 0)).2)))) (show ((i + 1) ≤ ps.length) ∧ ((Sp.mn a (Sp.lim 1048576 ((ps.getD i (0, 0)).1))) = (Sp.bxo ps (i + 1)).1) ∧ ((Sp.mn b (Sp.lim 1048576 ((ps.getD i (0, 0)).2))) = (Sp.bxo ps (i + 1)).2.1) ∧ ((Sp.mx c (Sp.lim 1048576 ((ps.getD i (0, 0)).1))) = (Sp.bxo ps (i + 1)).2.2.1) ∧ ((Sp.mx d (Sp.lim 1048576 ((ps.getD i (0, 0)).2))) = (Sp.bxo ps (i + 1)).2.2.2) from ⟨by omega, by (first | (rw [Sp.bxo_first (by omega)]) | (rw [Sp.bxo_next (by omega), ← ha, ← hb, ← hc, ← hd])), by (first | (rw [Sp.bxo_first (by omega)]) | (rw [Sp.bxo_next (by omega), ← ha, ← hb, ← hc, ← hd])), by (first | (rw [Sp.bxo_first (by omega)]) | (rw [Sp.bxo_next (by omega), ← ha, ← hb, ← hc, ← hd])), by (first | (rw [Sp.bxo_first (by omega)]) | (rw [Sp.bxo_next (by omega), ← ha, ← hb, ← hc, ← hd]))⟩) (show ps.length - (i + 1) < ps.length - i from by omega)
  · have h1p : ¬ ((((i : Nat) : Int) < ((ps.length : Nat) : Int))) := by first | (simpa using h1) | (have h1q := h1; simp at h1q; omega) | (have h1q := bx2 h1; simp at h1q; omega)
    have hl : i = ps.length := by omega
    have ha' : a = (Sp.bxo ps ps.length).1 := by rw [ha, hl]
    have hb' : b = (Sp.bxo ps ps.length).2.1 := by rw [hb, hl]
    have hc' : c = (Sp.bxo ps ps.length).2.2.1 := by rw [hc, hl]
    have hd' : d = (Sp.bxo ps ps.length).2.2.2 := by rw [hd, hl]
    refine aw_ex 0 ?_
    refine then_exit ?_
    refine then_exit ?_
    refine block_exit ?_
    refine then_normal ?_
    refine aw_p 31 (
      .a 2 3 <| .nil _ _) ?_
    refine aw_rt ?_
    exact en_ret [.agg #[.int .i64 a, .int .i64 b, .int .i64 c, .int .i64 d]] (show (.agg #[.int .i64 a, .int .i64 b, .int .i64 c, .int .i64 d] : Value) = (.agg #[.int .i64 ((Sp.bxo ps ps.length).1), .int .i64 ((Sp.bxo ps ps.length).2.1), .int .i64 ((Sp.bxo ps ps.length).2.2.1), .int .i64 ((Sp.bxo ps ps.length).2.2.2)]) from (congrArg (fun z : List Value => Value.agg z.toArray) (lcons (congrArg (Value.int .i64) (show a = ((Sp.bxo ps ps.length).1) from by (first | exact ha' | exact hb' | exact hc' | exact hd'))) (lcons (congrArg (Value.int .i64) (show b = ((Sp.bxo ps ps.length).2.1) from by (first | exact ha' | exact hb' | exact hc' | exact hd'))) (lcons (congrArg (Value.int .i64) (show c = ((Sp.bxo ps ps.length).2.2.1) from by (first | exact ha' | exact hb' | exact hc' | exact hd'))) (lcons (congrArg (Value.int .i64) (show d = ((Sp.bxo ps ps.length).2.2.2) from by (first | exact ha' | exact hb' | exact hc' | exact hd'))) rfl))))))
end Go.Proofs.Ytomnkdlfmjdckaa.Am

namespace Go.Proofs.Ytomnkdlfmjdckaa.Am
open Go Go.Proofs
set_option maxRecDepth 100000
set_option maxHeartbeats 4000000
set_option linter.unusedVariables false
set_option linter.unusedSimpArgs false
theorem has_ok (ax ay az aw px py : Int) :
    AC Try.prog 16 0 ([.agg #[.int .i64 ax, .int .i64 ay, .int .i64 az, .int .i64 aw], .agg #[.int .i64 px, .int .i64 py]]) [] (.bool (Sp.inbox ax ay az aw px py)) [] := by
  refine ac_in Try.func16 (fun w0 W pin => ?_)
  refine aw_p 3 (
    .a 3 1 <| .nil _ _) ?_
  rcases Bool.eq_false_or_eq_true (decide (ax ≤ px)) with h1 | h1
  · have h1p : ((ax ≤ px)) := by first | (simpa using h1) | (have h1q := h1; simp at h1q; omega) | (have h1q := bx1 h1; simp at h1q; omega)
    rcases Bool.eq_false_or_eq_true (decide (px ≤ az)) with h2 | h2
    · have h2p : ((px ≤ az)) := by first | (simpa using h2) | (have h2q := h2; simp at h2q; omega) | (have h2q := bx1 h2; simp at h2q; omega)
      rcases Bool.eq_false_or_eq_true (decide (ay ≤ py)) with h3 | h3
      · have h3p : ((ay ≤ py)) := by first | (simpa using h3) | (have h3q := h3; simp at h3q; omega) | (have h3q := bx1 h3; simp at h3q; omega)
        refine aw_p 7 (
          .a 5 3 <| .p (does_b true (h1)) <| .a 6 3 <| .p (does_b true (h2)) <| .a 7 3 <| .p (does_b true (h3)) <| .a 10 3 <| .nil _ _) ?_
        refine aw_rt ?_
        exact en_ret [.bool (decide (py ≤ aw))] (show (.bool (decide (py ≤ aw)) : Value) = (.bool (Sp.inbox ax ay az aw px py)) from (congrArg Value.bool (show (decide (py ≤ aw)) = (Sp.inbox ax ay az aw px py) from by (simp [Sp.inbox, *]))))
      · have h3p : ¬ ((ay ≤ py)) := by first | (simpa using h3) | (have h3q := h3; simp at h3q; omega) | (have h3q := bx2 h3; simp at h3q; omega)
        refine aw_p 7 (
          .a 5 3 <| .p (does_b true (h1)) <| .a 6 3 <| .p (does_b true (h2)) <| .a 7 3 <| .p (does_b false (h3)) <| .a 10 3 <| .nil _ _) ?_
        refine aw_rt ?_
        exact en_ret [.bool false] (show (.bool false : Value) = (.bool (Sp.inbox ax ay az aw px py)) from (congrArg Value.bool (show false = (Sp.inbox ax ay az aw px py) from by (simp [Sp.inbox, *]))))
    · have h2p : ¬ ((px ≤ az)) := by first | (simpa using h2) | (have h2q := h2; simp at h2q; omega) | (have h2q := bx2 h2; simp at h2q; omega)
      refine aw_p 7 (
        .a 5 3 <| .p (does_b true (h1)) <| .a 6 3 <| .p (does_b false (h2)) <| .a 18 3 <| .nil _ _) ?_
      refine aw_rt ?_
      exact en_ret [.bool false] (show (.bool false : Value) = (.bool (Sp.inbox ax ay az aw px py)) from (congrArg Value.bool (show false = (Sp.inbox ax ay az aw px py) from by (simp [Sp.inbox, *]))))
  · have h1p : ¬ ((ax ≤ px)) := by first | (simpa using h1) | (have h1q := h1; simp at h1q; omega) | (have h1q := bx2 h1; simp at h1q; omega)
    refine aw_p 7 (
      .a 5 3 <| .p (does_b false (h1)) <| .a 25 3 <| .nil _ _) ?_
    refine aw_rt ?_
    exact en_ret [.bool false] (show (.bool false : Value) = (.bool (Sp.inbox ax ay az aw px py)) from (congrArg Value.bool (show false = (Sp.inbox ax ay az aw px py) from by (simp [Sp.inbox, *]))))
end Go.Proofs.Ytomnkdlfmjdckaa.Am

namespace Go.Proofs.Ytomnkdlfmjdckaa.Sh
open Go Go.Shelf Go.RowKit Go.Lib Go.Sort Go.Proofs
set_option linter.unusedVariables false
set_option linter.unusedSimpArgs false
def sortPt_ren : Go.Shelf.Ren := ⟨fun | 6 => 31 | 15 => 60 | 14 => 59 | 28 => 82 | 29 => 83 | 20 => 74 | 21 => 75 | 22 => 76 | 23 => 77 | 24 => 78 | 25 => 79 | 26 => 80 | 27 => 81 | 46 => 95 | 47 => 96 | 48 => 97 | 49 => 98 | 50 => 99 | 57 => 105 | n => n, fun | 22 => 24 | 24 => 27 | 25 => 68 | 3 => 3 | 39 => 83 | 0 => 0 | 53 => 113 | 55 => 52 | 4 => 4 | 46 => 106 | 45 => 105 | 50 => 110 | 5 => 5 | 9 => 9 | 66 => 126 | 70 => 130 | 76 => 137 | 77 => 138 | n => n, fun | n => n⟩
theorem sortPt : Go.Proofs.SlLaysF0.n6 Try.prog sortPt_ren := {
  mixed := by kernel_rfl
  f6 := ⟨Try.f31.name, by decide, Try.func31.trans (congrArg some (by kernel_rfl))⟩
  f14 := ⟨Try.f59.name, by decide, Try.func59.trans (congrArg some (by kernel_rfl))⟩
  f15 := Try.func60.trans (congrArg some (by kernel_rfl))
  f20 := ⟨Try.f74.name, by decide, Try.func74.trans (congrArg some (by kernel_rfl))⟩
  f21 := ⟨Try.f75.name, by decide, Try.func75.trans (congrArg some (by kernel_rfl))⟩
  f22 := ⟨Try.f76.name, by decide, Try.func76.trans (congrArg some (by kernel_rfl))⟩
  f23 := ⟨Try.f77.name, by decide, Try.func77.trans (congrArg some (by kernel_rfl))⟩
  f24 := ⟨Try.f78.name, by decide, Try.func78.trans (congrArg some (by kernel_rfl))⟩
  f25 := ⟨Try.f79.name, by decide, Try.func79.trans (congrArg some (by kernel_rfl))⟩
  f26 := ⟨Try.f80.name, by decide, Try.func80.trans (congrArg some (by kernel_rfl))⟩
  f27 := ⟨Try.f81.name, by decide, Try.func81.trans (congrArg some (by kernel_rfl))⟩
  f28 := Try.func82.trans (congrArg some (by kernel_rfl))
  f29 := Try.func83.trans (congrArg some (by kernel_rfl))
  f46 := ⟨Try.f95.name, by decide, Try.func95.trans (congrArg some (by kernel_rfl))⟩
  f47 := Try.func96.trans (congrArg some (by kernel_rfl))
  f48 := Try.func97.trans (congrArg some (by kernel_rfl))
  f49 := ⟨Try.f98.name, by decide, Try.func98.trans (congrArg some (by kernel_rfl))⟩
  f50 := ⟨Try.f99.name, by decide, Try.func99.trans (congrArg some (by kernel_rfl))⟩
  f57 := ⟨Try.f105.name, by decide, Try.func105.trans (congrArg some (by kernel_rfl))⟩
  t0 := Try.underlying0
  a0 := Try.isAgg0
  z0 := Try.sizeOf0
  v0 := Try.zeroValue0
  t3 := Try.underlying3
  a3 := Try.isAgg3
  z3 := Try.sizeOf3
  v3 := Try.zeroValue3
  t4 := Try.underlying4
  a4 := Try.isAgg4
  z4 := Try.sizeOf4
  v4 := Try.zeroValue4
  t5 := Try.underlying5
  a5 := Try.isAgg5
  z5 := Try.sizeOf5
  v5 := Try.zeroValue5
  t9 := Try.underlying9
  a9 := Try.isAgg9
  z9 := Try.sizeOf9
  v9 := Try.zeroValue9
  t22 := Try.underlying24
  a22 := Try.isAgg24
  z22 := Try.sizeOf24
  v22 := Try.zeroValue24
  t25 := Try.underlying68
  a25 := Try.isAgg68
  z25 := Try.sizeOf68
  v25 := Try.zeroValue68
  t39 := Try.underlying83
  a39 := Try.isAgg83
  z39 := Try.sizeOf83
  v39 := Try.zeroValue83
  t45 := Try.underlying105
  a45 := Try.isAgg105
  z45 := Try.sizeOf105
  v45 := Try.zeroValue105
  t46 := Try.underlying106
  a46 := Try.isAgg106
  z46 := Try.sizeOf106
  v46 := Try.zeroValue106
  t50 := Try.underlying110
  a50 := Try.isAgg110
  z50 := Try.sizeOf110
  v50 := Try.zeroValue110
  t53 := Try.underlying113
  a53 := Try.isAgg113
  z53 := Try.sizeOf113
  v53 := Try.zeroValue113
  t55 := Try.underlying52
  a55 := Try.isAgg52
  z55 := Try.sizeOf52
  v55 := Try.zeroValue52
  t66 := Try.underlying126
  a66 := Try.isAgg126
  z66 := Try.sizeOf126
  v66 := Try.zeroValue126
  t70 := Try.underlying130
  a70 := Try.isAgg130
  z70 := Try.sizeOf130
  v70 := Try.zeroValue130
  t76 := Try.underlying137
  a76 := Try.isAgg137
  z76 := Try.sizeOf137
  v76 := Try.zeroValue137
  t77 := Try.underlying138
  a77 := Try.isAgg138
  z77 := Try.sizeOf138
  v77 := Try.zeroValue138 }
def cmpInt_ren : Go.Shelf.Ren := ⟨fun | 5 => 58 | 7 => 73 | n => n, fun | 22 => 3 | 3 => 3 | 4 => 4 | n => n, fun | n => n⟩
theorem cmpInt : Go.Proofs.SlLaysC2.n5 Try.prog cmpInt_ren := {
  mixed := by kernel_rfl
  f5 := ⟨Try.f58.name, by decide, Try.func58.trans (congrArg some (by kernel_rfl))⟩
  f7 := ⟨Try.f73.name, by decide, Try.func73.trans (congrArg some (by kernel_rfl))⟩
  t3 := Try.underlying3
  a3 := Try.isAgg3
  z3 := Try.sizeOf3
  v3 := Try.zeroValue3
  t4 := Try.underlying4
  a4 := Try.isAgg4
  z4 := Try.sizeOf4
  v4 := Try.zeroValue4
  t22 := Try.underlying3
  a22 := Try.isAgg3
  z22 := Try.sizeOf3
  v22 := Try.zeroValue3 }
def cfP (x y : Int × Int) : Int := if Lib.compareInt x.1 y.1 = 0 then Lib.compareInt x.2 y.2 else Lib.compareInt x.1 y.1
theorem ltP (x y : Int × Int) : ltOf cfP x y = !Am.leB y x := by
  unfold ltOf cfP Lib.compareInt Am.leB
  rw [Bool.eq_iff_iff]
  simp only [decide_eq_true_eq, Bool.not_eq_true', Bool.or_eq_false_iff, Bool.and_eq_false_imp, decide_eq_false_iff_not]
  (repeat' split) <;> omega
theorem swoP : SWO (ltOf cfP) where
  irrefl x := by rw [ltP]; simp [Am.leB]
  trans x y z h1 h2 := by rw [ltP] at *; unfold Am.leB at *; simp only [Bool.not_eq_true', Bool.or_eq_false_iff, Bool.and_eq_false_imp, decide_eq_false_iff_not, decide_eq_true_eq] at *; omega
  ntrans x y z h1 h2 := by rw [ltP] at *; unfold Am.leB at *; simp only [Bool.not_eq_false', Bool.or_eq_true, Bool.and_eq_true, decide_eq_true_eq] at *; omega
set_option maxHeartbeats 1000000 in
theorem closure (x y : Int × Int) (W : World) : Calls Try.prog 32 #[.agg #[.int .i64 x.1, .int .i64 x.2], .agg #[.int .i64 y.1, .int .i64 y.2]] W fun e w' => e = .returned (.int .i64 (cfP x y)) ∧ ∃ q os', w' = grow (W.drewN q) os' := by
  have hcon := fun a b W' => AnyG.cmp_Compare_int cmpInt a b W'
  change ∀ a b W', Calls Try.prog 58 _ _ _ at hcon
  unfold cfP
  generalize Lib.compareInt = f at hcon ⊢
  by_cases hz : f x.1 y.1 = 0
  · rw [if_pos hz]
    go_enter Try.func32, Try.ntmps32
    go_wp2_with (go_at_call 58; refine (hcon _ _ _).mono ?_; rintro e w' ⟨he, rfl⟩; subst he; try rw [hz])
    go_ret
    exact ⟨rfl, 0, _, by rw [alloc_eq_grow, alloc_eq_grow, grow_grow]; rfl⟩
  · rw [if_neg hz]
    go_enter Try.func32, Try.ntmps32
    go_wp2_with (go_at_call 58; refine (hcon _ _ _).mono ?_; rintro e w' ⟨he, rfl⟩; subst he)
    go_ret
    exact ⟨rfl, 0, _, by rw [alloc_eq_grow, alloc_eq_grow, grow_grow]; rfl⟩
theorem cmpLays (blk off size : Nat) (w : World) : CmpLays Try.prog 32 #[] Am.ptc 2 cfP blk off size w := fun _ _ _ _ x y => closure x y _
set_option maxRecDepth 100000 in
theorem sortsP : Am.SortsP Try.prog 31 32 (ltOf cfP) := by
  intro blk off cap d w hH hblk hsz
  have eg : ∀ args w, (callFunc 32 args).run Try.prog w = .ok (.enter 32 args) w := enters_of Try.func32 (by kernel_rfl) rfl
  exact AnyQ.slices_SortFunc sortPt 2 Try.isAgg27 Try.sizeOf27 Am.ptc (fun _ => rfl) (fun x v hv => by simp [Am.ptc] at hv; rcases hv with rfl | rfl <;> rfl) cfP swoP 32 #[] blk off cap d w eg (cmpLays blk off d.size w) hH hblk hsz
end Go.Proofs.Ytomnkdlfmjdckaa.Sh
