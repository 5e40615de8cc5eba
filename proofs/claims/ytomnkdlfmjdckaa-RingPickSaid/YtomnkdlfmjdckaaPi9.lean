import Derived.Test.YtomnkdlfmjdckaaAg4
import Derived.Test.YtomnkdlfmjdckaaAg5
set_option linter.unusedVariables false
set_option linter.unusedSimpArgs false
namespace Go.Proofs.Ytomnkdlfmjdckaa.Am.Sp
open Go
/-! Sums over the points of the grid in a box -/
def S2 (f : Nat → Nat → Int) (m n : Nat) : Int := sumN (fun i => sumN (f i) n) m
theorem sumN_plus (f g : Nat → Int) : ∀ n, sumN (fun i => f i + g i) n = sumN f n + sumN g n
  | 0 => rfl
  | n + 1 => by rw [sumN, sumN, sumN, sumN_plus f g n]; omega
theorem sumN_const (c : Int) : ∀ n : Nat, sumN (fun _ => c) n = c * n
  | 0 => by simp [sumN]
  | n + 1 => by rw [sumN, sumN_const c n, Int.natCast_succ, Int.mul_add, Int.mul_one]
theorem S2_plus (f g : Nat → Nat → Int) (m n : Nat) : S2 (fun i k => f i k + g i k) m n = S2 f m n + S2 g m n := by
  unfold S2
  rw [← sumN_plus]
  exact sumN_congr fun i _ => sumN_plus _ _ _
theorem S2_congr {f g : Nat → Nat → Int} {m n : Nat} (h : ∀ i, i < m → ∀ k, k < n → f i k = g i k) : S2 f m n = S2 g m n :=
  sumN_congr fun i hi => sumN_congr fun k hk => h i hi k hk
theorem S2_neg (f : Nat → Nat → Int) (m n : Nat) : S2 (fun i k => -f i k) m n = -S2 f m n := by
  unfold S2
  rw [← sumN_neg]
  exact sumN_congr fun i _ => sumN_neg _ _
theorem S2_const (c : Int) (m n : Nat) : S2 (fun _ _ => c) m n = c * m * n := by
  unfold S2
  rw [sumN_congr (g := fun _ => c * (n : Int)) (fun i _ => sumN_const c n), sumN_const, Int.mul_assoc, Int.mul_assoc, Int.mul_comm (n : Int)]
theorem S2_flip (f : Nat → Nat → Int) (m n : Nat) : S2 (fun i k => f (m - 1 - i) (n - 1 - k)) m n = S2 f m n := by
  unfold S2
  rw [sumN_congr (g := fun i => sumN (f (m - 1 - i)) n) (fun i _ => sumN_rev n (f (m - 1 - i)))]
  exact sumN_rev m (fun i => sumN (f i) n)
/-- what is 2 together with its image in the middle is 1 in the mean -/
theorem S2_mid {f : Nat → Nat → Int} {m n : Nat} (h : ∀ i, i < m → ∀ k, k < n → f i k + f (m - 1 - i) (n - 1 - k) = 2) : S2 f m n = (m : Int) * n := by
  have e := S2_plus f (fun i k => f (m - 1 - i) (n - 1 - k)) m n
  rw [S2_flip, S2_congr (g := fun _ _ => 2) h, S2_const] at e
  have : (2 : Int) * m * n = 2 * (m * n) := Int.mul_assoc ..
  omega
theorem sumN_zero {f : Nat → Int} {n : Nat} (h : ∀ i, i < n → f i = 0) : sumN f n = 0 := by
  rw [sumN_congr (g := fun _ => 0) h, sumN_const]; simp
/-- what vanishes outside a stretch -/
theorem sumN_part {f : Nat → Int} {a b n : Nat} (hab : a + b ≤ n) (h : ∀ i, i < n → (i < a ∨ a + b ≤ i) → f i = 0) : sumN f n = sumN (fun j => f (a + j)) b := by
  obtain ⟨c, rfl⟩ : ∃ c, n = a + (b + c) := ⟨n - a - b, by omega⟩
  rw [sumN_add, sumN_add, sumN_zero (n := a) (fun i hi => h i (by omega) (.inl hi)), sumN_zero (n := c) (fun i hi => h (a + (b + i)) (by omega) (.inr (by omega)))]
  omega
theorem S2_part {f : Nat → Nat → Int} {a b c d m n : Nat} (hab : a + b ≤ m) (hcd : c + d ≤ n) (h : ∀ i, i < m → ∀ k, k < n → (i < a ∨ a + b ≤ i) ∨ (k < c ∨ c + d ≤ k) → f i k = 0) : S2 f m n = S2 (fun i k => f (a + i) (c + k)) b d := by
  unfold S2
  rw [sumN_part hab (fun i hi hr => sumN_zero fun k hk => h i hi k hk (.inl hr))]
  exact sumN_congr fun i hi => sumN_part hcd (fun k hk hr => h (a + i) (by omega) k hk (.inr hr))
/-- the sign -/
def sg (n : Int) : Int := cmp n 0
theorem sg_iff (n : Int) : (n < 0 → sg n = -1) ∧ (n = 0 → sg n = 0) ∧ (0 < n → sg n = 1) := by
  unfold sg cmp
  refine ⟨fun h => ?_, fun h => ?_, fun h => ?_⟩ <;> (repeat' split) <;> omega
theorem sg_neg (n : Int) : sg (-n) = -sg n := by
  have a := sg_iff n
  have b := sg_iff (-n)
  rcases Int.lt_trichotomy n 0 with h | h | h
  · rw [b.2.2 (by omega), a.1 h]; rfl
  · rw [b.2.1 (by omega), a.2.1 h]; rfl
  · rw [b.1 (by omega), a.2.2 h]
/-- what lies beyond an edge, in the box of the edge: 2 beyond, 1 on it -/
def eW (P Q : Int × Int) (x y : Int) : Int := if (min P.1 Q.1 ≤ x ∧ x ≤ max P.1 Q.1) ∧ (min P.2 Q.2 ≤ y ∧ y ≤ max P.2 Q.2) then 1 - sg (crP P Q (x, y)) else 0
def ptW (P : Int × Int) (x y : Int) : Int := if x = P.1 ∧ y = P.2 then 1 else 0
/-- an edge in a box -/
theorem S2_edge {P Q : Int × Int} {lx ly : Int} {m n : Nat} (h1 : lx ≤ P.1 ∧ P.1 < lx + m) (h2 : lx ≤ Q.1 ∧ Q.1 < lx + m) (h3 : ly ≤ P.2 ∧ P.2 < ly + n) (h4 : ly ≤ Q.2 ∧ Q.2 < ly + n) :
    S2 (fun i k => eW P Q (lx + i) (ly + k)) m n = (max P.1 Q.1 - min P.1 Q.1 + 1) * (max P.2 Q.2 - min P.2 Q.2 + 1) := by
  obtain ⟨a, ha⟩ : ∃ a : Nat, (a : Int) = min P.1 Q.1 - lx := ⟨(min P.1 Q.1 - lx).toNat, by omega⟩
  obtain ⟨b, hb⟩ : ∃ b : Nat, (b : Int) = max P.1 Q.1 - min P.1 Q.1 + 1 := ⟨(max P.1 Q.1 - min P.1 Q.1 + 1).toNat, by omega⟩
  obtain ⟨c, hc⟩ : ∃ c : Nat, (c : Int) = min P.2 Q.2 - ly := ⟨(min P.2 Q.2 - ly).toNat, by omega⟩
  obtain ⟨d, hd⟩ : ∃ d : Nat, (d : Int) = max P.2 Q.2 - min P.2 Q.2 + 1 := ⟨(max P.2 Q.2 - min P.2 Q.2 + 1).toNat, by omega⟩
  rw [S2_part (a := a) (b := b) (c := c) (d := d) (by omega) (by omega) (fun i hi k hk hr => by unfold eW; exact if_neg (by omega)), S2_mid, hb, hd]
  intro i hi k hk
  have e1 : ((a + (b - 1 - i) : Nat) : Int) = P.1 + Q.1 - (lx + ((a + i : Nat) : Int)) - lx := by omega
  have e2 : ((c + (d - 1 - k) : Nat) : Int) = P.2 + Q.2 - (ly + ((c + k : Nat) : Int)) - ly := by omega
  show eW P Q (lx + ((a + i : Nat) : Int)) (ly + ((c + k : Nat) : Int)) + eW P Q (lx + ((a + (b - 1 - i) : Nat) : Int)) (ly + ((c + (d - 1 - k) : Nat) : Int)) = 2
  rw [e1, e2]
  have p1 : min P.1 Q.1 ≤ lx + ((a + i : Nat) : Int) ∧ lx + ((a + i : Nat) : Int) ≤ max P.1 Q.1 := by omega
  have p2 : min P.2 Q.2 ≤ ly + ((c + k : Nat) : Int) ∧ ly + ((c + k : Nat) : Int) ≤ max P.2 Q.2 := by omega
  generalize lx + ((a + i : Nat) : Int) = x at *
  generalize ly + ((c + k : Nat) : Int) = y at *
  unfold eW
  rw [if_pos ⟨p1, p2⟩, if_pos (by omega)]
  have e : crP P Q (lx + (P.1 + Q.1 - x - lx), ly + (P.2 + Q.2 - y - ly)) = -crP P Q (x, y) := by unfold crP crs; grind
  rw [e, sg_neg]; omega
theorem S2_pt {P : Int × Int} {lx ly : Int} {m n : Nat} (h1 : lx ≤ P.1 ∧ P.1 < lx + m) (h3 : ly ≤ P.2 ∧ P.2 < ly + n) : S2 (fun i k => ptW P (lx + i) (ly + k)) m n = 1 := by
  obtain ⟨a, ha⟩ : ∃ a : Nat, (a : Int) = P.1 - lx := ⟨(P.1 - lx).toNat, by omega⟩
  obtain ⟨c, hc⟩ : ∃ c : Nat, (c : Int) = P.2 - ly := ⟨(P.2 - ly).toNat, by omega⟩
  rw [S2_part (a := a) (b := 1) (c := c) (d := 1) (by omega) (by omega) (fun i hi k hk hr => by unfold ptW; exact if_neg (by omega))]
  show (0 : Int) + (0 + ptW P (lx + ((a + 0 : Nat) : Int)) (ly + ((c + 0 : Nat) : Int))) = 1
  unfold ptW
  rw [if_pos (by omega)]; rfl
end Go.Proofs.Ytomnkdlfmjdckaa.Am.Sp

set_option linter.unusedVariables false
set_option linter.unusedSimpArgs false
namespace Go.Proofs.Ytomnkdlfmjdckaa.Am.Sp
open Go
/-! A convex ring: in it, on it, outside, by the signs of its edges -/
theorem onany_ex {p : Int × Int} : ∀ (l : List (Int × Int)) (a : Int × Int), onany p a l = true → ∃ i, i < l.length ∧ onb ((a :: l).getD i (0, 0)).1 ((a :: l).getD i (0, 0)).2 ((a :: l).getD (i + 1) (0, 0)).1 ((a :: l).getD (i + 1) (0, 0)).2 p.1 p.2 = true
  | [], _, h => by simp [onany] at h
  | b :: r, a, h => by
    rw [onany, Bool.or_eq_true] at h
    rcases h with h | h
    · exact ⟨0, by simp, h⟩
    · obtain ⟨i, hi, e⟩ := onany_ex r b h
      exact ⟨i + 1, by simpa using hi, e⟩
def edC (ps : List (Int × Int)) (p : Int × Int) (i : Nat) : Int := crP (ps.getD i (0, 0)) (ps.getD ((i + 1) % ps.length) (0, 0)) p
theorem conv_sign {ps : List (Int × Int)} (hh : hullF ps = ps) (h3 : 2 < ps.length) (hf : Few 40 ps) (p : Int × Int) :
    ((∃ i, i < ps.length ∧ edC ps p i < 0) → hasF ps p.1 p.2 0 (-1) = -1) ∧ ((∀ i, i < ps.length → 0 ≤ edC ps p i) → (∃ i, i < ps.length ∧ edC ps p i = 0) → hasF ps p.1 p.2 0 (-1) = 0) ∧ ((∀ i, i < ps.length → 0 < edC ps p i) → hasF ps p.1 p.2 0 (-1) = 1) := by
  have hlen : (ps.drop 1 ++ [ps.getD 0 (0, 0)]).length = ps.length := by simp; omega
  refine ⟨?_, ?_, ?_⟩
  · rintro ⟨i, hi, hc⟩
    have hx : hasH (hullF ps) p.1 p.2 = false := by
      cases e : hasH (hullF ps) p.1 p.2
      · rfl
      · exfalso
        rw [hh, hasH_3 (by omega)] at e
        have := hasL_get ps.length 0 (by omega) e i (by omega) hi
        have k : edC ps p i = crs (ps.getD i (0, 0)).1 (ps.getD i (0, 0)).2 (ps.getD ((i + 1) % ps.length) (0, 0)).1 (ps.getD ((i + 1) % ps.length) (0, 0)).2 p.1 p.2 := rfl
        omega
    exact (has_hull_out (m := 40) (by decide) hf (by omega) hx).1
  · intro hall ⟨i, hi, hc⟩
    have hi' : i < (hullF ps).length := by rw [hh]; exact hi
    rw [hasv_lim (by omega) (map_limp (m := 40) (by decide) hf)]
    unfold hasv
    rw [if_pos]
    cases e : onany p (ps.getD 0 (0, 0)) (ps.drop 1 ++ [ps.getD 0 (0, 0)])
    · exfalso
      have k := onany_at _ _ i (by rw [hlen]; exact hi) e
      obtain ⟨c1, c2⟩ := closed_at (h := ps) (by omega) hi
      rw [c1, c2] at k
      -- the edge before and the edge behind
      obtain ⟨n, hn⟩ : ∃ n, ps.length = n := ⟨_, rfl⟩
      have hj : (i + (n - 1)) % n < n := Nat.mod_lt _ (by omega)
      have t1 := hull_turn (ps := ps) (by rw [hh]; omega) (i := (i + (n - 1)) % n) (by rw [hh]; omega)
      have t2 := hull_turn (ps := ps) (by rw [hh]; omega) (i := i) hi'
      have a1 := hall ((i + (n - 1)) % n) (by omega)
      have a3 := hall ((i + 1) % n) (by have := Nat.mod_lt (i + 1) (show 0 < n by omega); omega)
      rw [hh, hn] at t1 t2
      unfold edC at a1 a3 hc
      rw [hn] at a1 a3 hc k
      have m1 : ((i + (n - 1)) % n + 1) % n = i := by rw [Nat.mod_add_mod, show i + (n - 1) + 1 = i + n by omega, Nat.add_mod_right, Nat.mod_eq_of_lt (by omega)]
      have m2 : ((i + (n - 1)) % n + 2) % n = (i + 1) % n := by rw [Nat.mod_add_mod, show i + (n - 1) + 2 = i + 1 + n by omega, Nat.add_mod_right]
      have m3 : ((i + 1) % n + 1) % n = (i + 2) % n := by rw [Nat.mod_add_mod]
      rw [m1, m2] at t1
      rw [m1] at a1
      rw [m3] at a3
      rw [edge_seg t1 t2 a1 a3 hc] at k; cases k
    · rfl
  · intro hall
    have hx : hasH (hullF ps) p.1 p.2 = true := by
      rw [hh, hasH_3 (by omega)]
      exact hasL_all (fun i hi => Int.le_of_lt (hall i hi)) ps.length 0 (by omega)
    have k := has_hull_in (m := 40) (by decide) hf (by rw [hh]; omega) hx
    rw [hh] at k
    have e := hasv_lim (ps := ps) (by omega) (map_limp (m := 40) (by decide) hf) p.1 p.2
    unfold hasv at e
    split at e
    · rename_i ho
      exfalso
      obtain ⟨i, hi, ei⟩ := onany_ex _ _ ho
      rw [hlen] at hi
      obtain ⟨c1, c2⟩ := closed_at (h := ps) (by omega) hi
      rw [c1, c2] at ei
      have := ((onb_iff ..).1 ei).1
      have h2 := hall i hi
      have k : edC ps p i = crs (ps.getD i (0, 0)).1 (ps.getD i (0, 0)).2 (ps.getD ((i + 1) % ps.length) (0, 0)).1 (ps.getD ((i + 1) % ps.length) (0, 0)).2 p.1 p.2 := rfl
      dsimp only at this
      omega
    · split at e
      · exact e
      · omega
/-- three edges -/
theorem conv3 {A B C : Int × Int} (hh : hullF [A, B, C] = [A, B, C]) (hf : Few 40 [A, B, C]) (p : Int × Int) :
    ((crP A B p < 0 ∨ crP B C p < 0 ∨ crP C A p < 0) → hasF [A, B, C] p.1 p.2 0 (-1) = -1) ∧ ((0 ≤ crP A B p ∧ 0 ≤ crP B C p ∧ 0 ≤ crP C A p) → (crP A B p = 0 ∨ crP B C p = 0 ∨ crP C A p = 0) → hasF [A, B, C] p.1 p.2 0 (-1) = 0) ∧ ((0 < crP A B p ∧ 0 < crP B C p ∧ 0 < crP C A p) → hasF [A, B, C] p.1 p.2 0 (-1) = 1) := by
  obtain ⟨k1, k2, k3⟩ := conv_sign hh (by simp) hf p
  refine ⟨fun h => k1 ?_, fun h0 h => k2 (fun i hi => ?_) ?_, fun h => k3 (fun i hi => ?_)⟩
  · rcases h with h | h | h
    · exact ⟨0, by simp, h⟩
    · exact ⟨1, by simp, h⟩
    · exact ⟨2, by simp, show crP ([A, B, C].getD 2 (0, 0)) ([A, B, C].getD ((2 + 1) % 3) (0, 0)) p < 0 from h⟩
  · rcases (show i = 0 ∨ i = 1 ∨ i = 2 by simp at hi; omega) with rfl | rfl | rfl
    · exact h0.1
    · exact h0.2.1
    · exact (show 0 ≤ crP ([A, B, C].getD 2 (0, 0)) ([A, B, C].getD ((2 + 1) % 3) (0, 0)) p from h0.2.2)
  · rcases h with h | h | h
    · exact ⟨0, by simp, h⟩
    · exact ⟨1, by simp, h⟩
    · exact ⟨2, by simp, show crP ([A, B, C].getD 2 (0, 0)) ([A, B, C].getD ((2 + 1) % 3) (0, 0)) p = 0 from h⟩
  · rcases (show i = 0 ∨ i = 1 ∨ i = 2 by simp at hi; omega) with rfl | rfl | rfl
    · exact h.1
    · exact h.2.1
    · exact (show 0 < crP ([A, B, C].getD 2 (0, 0)) ([A, B, C].getD ((2 + 1) % 3) (0, 0)) p from h.2.2)
end Go.Proofs.Ytomnkdlfmjdckaa.Am.Sp

set_option linter.unusedVariables false
set_option linter.unusedSimpArgs false
namespace Go.Proofs.Ytomnkdlfmjdckaa.Am.Sp
open Go
/-! Triangles: the points in them and on them -/
def wT (ps : List (Int × Int)) (x y : Int) : Int := hasF ps x y 0 (-1) + 1
theorem eW_sg {P Q : Int × Int} {x y : Int} (h : ¬ ((min P.1 Q.1 ≤ x ∧ x ≤ max P.1 Q.1) ∧ (min P.2 Q.2 ≤ y ∧ y ≤ max P.2 Q.2)) → 0 < crP P Q (x, y)) : eW P Q x y = 1 - sg (crP P Q (x, y)) := by
  unfold eW
  split
  · rfl
  · rename_i c; rw [(sg_iff _).2.2 (h c)]; rfl
theorem ptW_ne {P : Int × Int} {x y : Int} (h : (x, y) ≠ P) : ptW P x y = 0 := by
  unfold ptW; exact if_neg (fun q => h (Prod.ext q.1 q.2))
theorem ptW_eq {P : Int × Int} : ptW P P.1 P.2 = 1 := by unfold ptW; exact if_pos ⟨rfl, rfl⟩
theorem tri_w {A B C : Int × Int} {x y : Int} (hh : hullF [A, B, C] = [A, B, C]) (hf : Few 40 [A, B, C]) (hT : 0 < crP A B C)
    (r1 : eW A B x y = 1 - sg (crP A B (x, y))) (r2 : eW B C x y = 1 - sg (crP B C (x, y))) (r3 : eW C A x y = 1 - sg (crP C A (x, y)))
    (d1 : 0 < crP A B (x, y) ∨ 0 < crP C A (x, y) ∨ (x, y) = A) (d2 : 0 < crP A B (x, y) ∨ 0 < crP B C (x, y) ∨ (x, y) = B) (d3 : 0 < crP B C (x, y) ∨ 0 < crP C A (x, y) ∨ (x, y) = C) :
    wT [A, B, C] x y = 2 - (eW A B x y + eW B C x y + eW C A x y) + (ptW A x y + ptW B x y + ptW C x y) := by
  obtain ⟨k1, k2, k3⟩ := conv3 hh hf (x, y)
  rw [r1, r2, r3]
  unfold wT
  have tB : crP B C A = crP A B C := by rw [crP_rot A B C]
  have tC : crP C A B = crP A B C := by rw [crP_rot A B C, crP_rot B C A]
  have s1 := sg_iff (crP A B (x, y))
  have s2 := sg_iff (crP B C (x, y))
  have s3 := sg_iff (crP C A (x, y))
  have nAB : A ≠ B := fun e => by rw [e, crP_aab] at hT; omega
  have nBC : B ≠ C := fun e => by rw [e, crP_self] at hT; omega
  have nAC : A ≠ C := fun e => by rw [e, crP_aba] at hT; omega
  by_cases pA : (x, y) = A
  · rw [pA] at k1 k2 k3 s1 s2 s3 ⊢
    rw [crP_aba] at k2 s1 ⊢
    rw [crP_self] at k2 s3 ⊢
    have hx : x = A.1 := congrArg (·.1) pA
    have hy : y = A.2 := congrArg (·.2) pA
    subst hx hy
    rw [k2 ⟨by omega, by omega, by omega⟩ (by omega), s1.2.1 rfl, s2.2.2 (by omega), ptW_eq, ptW_ne (by rw [pA]; exact nAB), ptW_ne (by rw [pA]; exact nAC)]; rfl
  · by_cases pB : (x, y) = B
    · rw [pB] at k1 k2 k3 s1 s2 s3 ⊢
      rw [crP_self] at k2 s1 ⊢
      rw [crP_aba] at k2 s2 ⊢
      have hx : x = B.1 := congrArg (·.1) pB
      have hy : y = B.2 := congrArg (·.2) pB
      subst hx hy
      rw [k2 ⟨by omega, by omega, by omega⟩ (by omega), s1.2.1 rfl, s3.2.2 (by omega), ptW_eq, ptW_ne (by rw [pB]; exact nAB.symm), ptW_ne (by rw [pB]; exact nBC)]; rfl
    · by_cases pC : (x, y) = C
      · rw [pC] at k1 k2 k3 s1 s2 s3 ⊢
        rw [crP_self] at k2 s2 ⊢
        rw [crP_aba] at k2 s3 ⊢
        have hx : x = C.1 := congrArg (·.1) pC
        have hy : y = C.2 := congrArg (·.2) pC
        subst hx hy
        rw [k2 ⟨by omega, by omega, by omega⟩ (by omega), s1.2.2 (by omega), s2.2.1 rfl, ptW_eq, ptW_ne (by rw [pC]; exact nAC.symm), ptW_ne (by rw [pC]; exact nBC.symm)]; rfl
      · rw [ptW_ne pA, ptW_ne pB, ptW_ne pC]
        replace d1 := d1.imp id (fun h => h.resolve_right pA)
        replace d2 := d2.imp id (fun h => h.resolve_right pB)
        replace d3 := d3.imp id (fun h => h.resolve_right pC)
        dsimp only at k1 k2 k3
        generalize crP A B (x, y) = c1 at *
        generalize crP B C (x, y) = c2 at *
        generalize crP C A (x, y) = c3 at *
        rcases Int.lt_trichotomy c1 0 with h1 | h1 | h1
        · rw [k1 (by omega), s1.1 h1, s2.2.2 (by omega), s3.2.2 (by omega)]; rfl
        · rw [k2 ⟨by omega, by omega, by omega⟩ (by omega), s1.2.1 h1, s2.2.2 (by omega), s3.2.2 (by omega)]; rfl
        · rcases Int.lt_trichotomy c2 0 with h2 | h2 | h2
          · rw [k1 (by omega), s1.2.2 h1, s2.1 h2, s3.2.2 (by omega)]; rfl
          · rw [k2 ⟨by omega, by omega, by omega⟩ (by omega), s1.2.2 h1, s2.2.1 h2, s3.2.2 (by omega)]; rfl
          · rcases Int.lt_trichotomy c3 0 with h3 | h3 | h3
            · rw [k1 (by omega), s1.2.2 h1, s2.2.2 h2, s3.1 h3]; rfl
            · rw [k2 ⟨by omega, by omega, by omega⟩ (by omega), s1.2.2 h1, s2.2.2 h2, s3.2.1 h3]; rfl
            · rw [k3 ⟨h1, h2, h3⟩, s1.2.2 h1, s2.2.2 h2, s3.2.2 h3]; rfl
/-- the triangle that is drawn, in its square -/
theorem tri_in {a c R u v X Y : Int} (hR : 1 ≤ R) (hu : 0 ≤ u ∧ u < R) (hv : 0 ≤ v ∧ v < R) (hX : a ≤ X ∧ X ≤ a + R) (hY : c ≤ Y ∧ Y ≤ c + R) (hh : hullF [(a, c), (a + R, c + u), (a + v, c + R)] = [(a, c), (a + R, c + u), (a + v, c + R)]) (hf : Few 40 [(a, c), (a + R, c + u), (a + v, c + R)]) :
    wT [(a, c), (a + R, c + u), (a + v, c + R)] X Y = 2 - (eW (a, c) (a + R, c + u) X Y + eW (a + R, c + u) (a + v, c + R) X Y + eW (a + v, c + R) (a, c) X Y) + (ptW (a, c) X Y + ptW (a + R, c + u) X Y + ptW (a + v, c + R) X Y) := by
  have e1 : crP (a, c) (a + R, c + u) (X, Y) = R * (Y - c) - u * (X - a) := by unfold crP crs; grind
  have e2 : crP (a + R, c + u) (a + v, c + R) (X, Y) = (R - v) * (u - (Y - c)) + (R - u) * (R - (X - a)) := by unfold crP crs; grind
  have e2' : crP (a + R, c + u) (a + v, c + R) (X, Y) = (R - u) * (v - (X - a)) + (R - v) * (R - (Y - c)) := by unfold crP crs; grind
  have e3 : crP (a + v, c + R) (a, c) (X, Y) = R * (X - a) - v * (Y - c) := by unfold crP crs; grind
  have eT : crP (a, c) (a + R, c + u) (a + v, c + R) = (R - u) * R + u * (R - v) := by unfold crP crs; grind
  obtain ⟨x, rfl⟩ : ∃ x, X = a + x := ⟨X - a, by omega⟩
  obtain ⟨y, rfl⟩ : ∃ y, Y = c + y := ⟨Y - c, by omega⟩
  rw [show a + x - a = x by omega, show c + y - c = y by omega] at *
  have x0 : 0 ≤ x ∧ x ≤ R := by omega
  have y0 : 0 ≤ y ∧ y ≤ R := by omega
  have m1 := Int.mul_pos (show 0 < R - u by omega) (show 0 < R by omega)
  have m2 := mulnnH hu.1 (show 0 ≤ R - v by omega)
  have hT : 0 < crP (a, c) (a + R, c + u) (a + v, c + R) := by omega
  -- beyond the boxes of the edges
  have b1 : u < y → 0 < crP (a, c) (a + R, c + u) (a + x, c + y) := fun h => by
    have k1 := Int.mul_lt_mul_of_pos_left h (show 0 < R by omega)
    have k2 := Int.mul_le_mul_of_nonneg_left x0.2 hu.1
    have k3 : u * R = R * u := Int.mul_comm ..
    omega
  have b3 : v < x → 0 < crP (a + v, c + R) (a, c) (a + x, c + y) := fun h => by
    have k1 := Int.mul_lt_mul_of_pos_left h (show 0 < R by omega)
    have k2 := Int.mul_le_mul_of_nonneg_left y0.2 hv.1
    have k3 : v * R = R * v := Int.mul_comm ..
    omega
  have b2 : y < u ∨ x < v → 0 < crP (a + R, c + u) (a + v, c + R) (a + x, c + y) := fun h => by
    rcases h with h | h
    · have k1 := Int.mul_pos (show 0 < R - v by omega) (show 0 < u - y by omega)
      have k2 := mulnnH (show 0 ≤ R - u by omega) (show 0 ≤ R - x by omega)
      omega
    · have k1 := Int.mul_pos (show 0 < R - u by omega) (show 0 < v - x by omega)
      have k2 := mulnnH (show 0 ≤ R - v by omega) (show 0 ≤ R - y by omega)
      omega
  refine tri_w hh hf hT (eW_sg fun h => b1 ?_) (eW_sg fun h => b2 ?_) (eW_sg fun h => b3 ?_) ?_ ?_ ?_
  · dsimp only at h; omega
  · dsimp only at h; omega
  · dsimp only at h; omega
  · -- at the first corner
    by_cases g : 0 < crP (a, c) (a + R, c + u) (a + x, c + y)
    · exact .inl g
    · right
      by_cases z : x = 0
      · right
        subst z
        rw [Int.mul_zero, Int.sub_zero] at e1
        have : ¬ 0 < y := fun h => by have := Int.mul_pos (show 0 < R by omega) h; omega
        exact Prod.ext (by dsimp only; omega) (by dsimp only; omega)
      · left
        -- R (R x - v y) = R² x - v R y, and R y ≤ u x
        have k1 : R * (R * x - v * y) = (R * R - u * v) * x + v * (u * x - R * y) := by grind
        have k2 := Int.mul_pos (show 0 < R * R - u * v by
          have : R * R - u * v = (R - u) * R + u * (R - v) := by grind
          omega) (show 0 < x by omega)
        have k3 := mulnnH hv.1 (show 0 ≤ u * x - R * y by omega)
        apply Classical.byContradiction; intro hn
        have := Int.mul_nonpos_of_nonneg_of_nonpos (show 0 ≤ R by omega) (show R * x - v * y ≤ 0 by omega)
        omega
  · by_cases g : 0 < crP (a, c) (a + R, c + u) (a + x, c + y)
    · exact .inl g
    · right
      by_cases z : x = R
      · subst z
        by_cases w : y < u
        · exact .inl (b2 (.inl w))
        · right
          by_cases w2 : u < y
          · exact (g (b1 w2)).elim
          · exact Prod.ext (by dsimp only) (by dsimp only; omega)
      · left
        by_cases w : u < y
        · exact (g (b1 w)).elim
        · have k1 := mulnnH (show 0 ≤ R - v by omega) (show 0 ≤ u - y by omega)
          have k2 := Int.mul_pos (show 0 < R - u by omega) (show 0 < R - x by omega)
          omega
  · by_cases g : 0 < crP (a + v, c + R) (a, c) (a + x, c + y)
    · exact .inr (.inl g)
    · by_cases z : y = R
      · subst z
        by_cases w : x < v
        · exact .inl (b2 (.inr w))
        · right; right
          by_cases w2 : v < x
          · exact (g (b3 w2)).elim
          · exact Prod.ext (by dsimp only; omega) (by dsimp only)
      · left
        by_cases w : v < x
        · exact (g (b3 w)).elim
        · have k1 := mulnnH (show 0 ≤ R - u by omega) (show 0 ≤ v - x by omega)
          have k2 := Int.mul_pos (show 0 < R - v by omega) (show 0 < R - y by omega)
          omega
/-- a triangle on a level base -/
theorem base_in {a c R m h X Y : Int} (hm : 0 < m ∧ m < R) (hh0 : 1 ≤ h) (hX : a ≤ X ∧ X ≤ a + R) (hY : c ≤ Y ∧ Y ≤ c + h) (hh : hullF [(a, c), (a + R, c), (a + m, c + h)] = [(a, c), (a + R, c), (a + m, c + h)]) (hf : Few 40 [(a, c), (a + R, c), (a + m, c + h)]) :
    wT [(a, c), (a + R, c), (a + m, c + h)] X Y = 2 - (eW (a, c) (a + R, c) X Y + eW (a + R, c) (a + m, c + h) X Y + eW (a + m, c + h) (a, c) X Y) + (ptW (a, c) X Y + ptW (a + R, c) X Y + ptW (a + m, c + h) X Y) := by
  have e1 : crP (a, c) (a + R, c) (X, Y) = R * (Y - c) := by unfold crP crs; grind
  have e2 : crP (a + R, c) (a + m, c + h) (X, Y) = h * (R - (X - a)) - (R - m) * (Y - c) := by unfold crP crs; grind
  have e2' : crP (a + R, c) (a + m, c + h) (X, Y) = h * (m - (X - a)) + (R - m) * (h - (Y - c)) := by unfold crP crs; grind
  have e3 : crP (a + m, c + h) (a, c) (X, Y) = h * (X - a) - m * (Y - c) := by unfold crP crs; grind
  have e3' : crP (a + m, c + h) (a, c) (X, Y) = h * ((X - a) - m) + m * (h - (Y - c)) := by unfold crP crs; grind
  have eT : crP (a, c) (a + R, c) (a + m, c + h) = R * h := by unfold crP crs; grind
  obtain ⟨x, rfl⟩ : ∃ x, X = a + x := ⟨X - a, by omega⟩
  obtain ⟨y, rfl⟩ : ∃ y, Y = c + y := ⟨Y - c, by omega⟩
  rw [show a + x - a = x by omega, show c + y - c = y by omega] at *
  have hT : 0 < crP (a, c) (a + R, c) (a + m, c + h) := by have := Int.mul_pos (show 0 < R by omega) (show 0 < h by omega); omega
  have n3 := mulnnH (show 0 ≤ m by omega) (show 0 ≤ h - y by omega)
  have n2 := mulnnH (show 0 ≤ R - m by omega) (show 0 ≤ h - y by omega)
  have b1 : 0 < y → 0 < crP (a, c) (a + R, c) (a + x, c + y) := fun g => by have := Int.mul_pos (show 0 < R by omega) g; omega
  have b2 : x < m → 0 < crP (a + R, c) (a + m, c + h) (a + x, c + y) := fun g => by have := Int.mul_pos (show 0 < h by omega) (show 0 < m - x by omega); omega
  have b3 : m < x → 0 < crP (a + m, c + h) (a, c) (a + x, c + y) := fun g => by have := Int.mul_pos (show 0 < h by omega) (show 0 < x - m by omega); omega
  refine tri_w hh hf hT (eW_sg fun g => b1 ?_) (eW_sg fun g => b2 ?_) (eW_sg fun g => b3 ?_) ?_ ?_ ?_
  · dsimp only at g; omega
  · dsimp only at g; omega
  · dsimp only at g; omega
  · by_cases g : 0 < y
    · exact .inl (b1 g)
    · right
      have : y = 0 := by omega
      subst this
      by_cases z : 0 < x
      · left; have := Int.mul_pos (show 0 < h by omega) z; rw [Int.mul_zero] at e3; omega
      · right; exact Prod.ext (by dsimp only; omega) (by dsimp only; omega)
  · by_cases g : 0 < y
    · exact .inl (b1 g)
    · right
      have : y = 0 := by omega
      subst this
      by_cases z : x < R
      · left; have := Int.mul_pos (show 0 < h by omega) (show 0 < R - x by omega); rw [Int.mul_zero] at e2; omega
      · right; exact Prod.ext (by dsimp only; omega) (by dsimp only; omega)
  · rcases Int.lt_trichotomy x m with g | g | g
    · exact .inl (b2 g)
    · subst g
      by_cases z : y < h
      · left; have := Int.mul_pos (show 0 < R - x by omega) (show 0 < h - y by omega); rw [Int.sub_self, Int.mul_zero] at e2'; omega
      · right; right; exact Prod.ext (by dsimp only) (by dsimp only; omega)
    · exact .inr (.inl (b3 g))
end Go.Proofs.Ytomnkdlfmjdckaa.Am.Sp

set_option linter.unusedVariables false
set_option linter.unusedSimpArgs false
namespace Go.Proofs.Ytomnkdlfmjdckaa.Am.Sp
open Go
/-! What the edges and the corners of a ring count over its box -/
theorem sg_mul {c z : Int} (hc : 0 < c) : sg (c * z) = sg z := by
  have a := sg_iff (c * z)
  have b := sg_iff z
  rcases Int.lt_trichotomy z 0 with h | h | h
  · rw [b.1 h, a.1 (by have := Int.mul_pos hc (show 0 < -z by omega); rw [Int.mul_neg] at this; omega)]
  · subst h; rw [Int.mul_zero]
  · rw [b.2.2 h, a.2.2 (Int.mul_pos hc h)]
section
variable {P Q : Int × Int} {X Y c z : Int}
theorem eW_out (h : ¬ ((min P.1 Q.1 ≤ X ∧ X ≤ max P.1 Q.1) ∧ (min P.2 Q.2 ≤ Y ∧ Y ≤ max P.2 Q.2))) : eW P Q X Y = 0 := if_neg h
theorem eW_pos (hc : 0 < c) (e : crP P Q (X, Y) = c * z) (hz : 0 < z) : eW P Q X Y = 0 := by
  unfold eW
  split
  · rw [e, sg_mul hc, (sg_iff z).2.2 hz]; rfl
  · rfl
theorem eW_one (hc : 0 < c) (e : crP P Q (X, Y) = c * z) (hz : z = 0) (h : (min P.1 Q.1 ≤ X ∧ X ≤ max P.1 Q.1) ∧ (min P.2 Q.2 ≤ Y ∧ Y ≤ max P.2 Q.2)) : eW P Q X Y = 1 := by
  unfold eW
  rw [if_pos h, e, sg_mul hc, (sg_iff z).2.1 hz]; rfl
theorem eW_two (hc : 0 < c) (e : crP P Q (X, Y) = c * z) (hz : z < 0) (h : (min P.1 Q.1 ≤ X ∧ X ≤ max P.1 Q.1) ∧ (min P.2 Q.2 ≤ Y ∧ Y ≤ max P.2 Q.2)) : eW P Q X Y = 2 := by
  unfold eW
  rw [if_pos h, e, sg_mul hc, (sg_iff z).1 hz]; rfl
theorem ptW_0 (h : ¬ (X = P.1 ∧ Y = P.2)) : ptW P X Y = 0 := if_neg h
theorem ptW_1 (h : X = P.1 ∧ Y = P.2) : ptW P X Y = 1 := if_pos h
end
def sumL : List Int → Int
  | [] => 0
  | a :: l => a + sumL l
def eS (E : List ((Int × Int) × (Int × Int))) (x y : Int) : Int := sumL (E.map fun e => eW e.1 e.2 x y)
def pS (V : List (Int × Int)) (x y : Int) : Int := sumL (V.map fun p => ptW p x y)
def eB (e : (Int × Int) × (Int × Int)) : Int := (max e.1.1 e.2.1 - min e.1.1 e.2.1 + 1) * (max e.1.2 e.2.2 - min e.1.2 e.2.2 + 1)
def inB (lx ly : Int) (m n : Nat) (p : Int × Int) : Prop := (lx ≤ p.1 ∧ p.1 < lx + m) ∧ (ly ≤ p.2 ∧ p.2 < ly + n)
theorem S2_eS {lx ly : Int} {m n : Nat} : ∀ (E : List ((Int × Int) × (Int × Int))), (∀ e ∈ E, inB lx ly m n e.1 ∧ inB lx ly m n e.2) → S2 (fun i k => eS E (lx + i) (ly + k)) m n = sumL (E.map eB)
  | [], _ => by
    show S2 (fun _ _ => 0) m n = 0
    rw [S2_const]; simp
  | e :: E, h => by
    have a := h e List.mem_cons_self
    rw [show (fun i k : Nat => eS (e :: E) (lx + i) (ly + k)) = fun i k : Nat => eW e.1 e.2 (lx + i) (ly + k) + eS E (lx + i) (ly + k) from rfl, S2_plus, S2_eS E (fun q hq => h q (List.mem_cons_of_mem _ hq)), S2_edge a.1.1 a.2.1 a.1.2 a.2.2]; rfl
theorem S2_pS {lx ly : Int} {m n : Nat} : ∀ (V : List (Int × Int)), (∀ p ∈ V, inB lx ly m n p) → S2 (fun i k => pS V (lx + i) (ly + k)) m n = V.length
  | [], _ => by
    show S2 (fun _ _ => 0) m n = _
    rw [S2_const]; simp
  | p :: V, h => by
    have a := h p List.mem_cons_self
    rw [show (fun i k : Nat => pS (p :: V) (lx + i) (ly + k)) = fun i k : Nat => ptW p (lx + i) (ly + k) + pS V (lx + i) (ly + k) from rfl, S2_plus, S2_pS V (fun q hq => h q (List.mem_cons_of_mem _ hq)), S2_pt a.1 a.2, List.length_cons]; omega
/-- a row of a box that is told by edges and corners -/
theorem S2_all {lx ly : Int} {m n : Nat} {E : List ((Int × Int) × (Int × Int))} {V : List (Int × Int)} {f : Nat → Nat → Int} (hE : ∀ e ∈ E, inB lx ly m n e.1 ∧ inB lx ly m n e.2) (hV : ∀ p ∈ V, inB lx ly m n p)
    (hf : ∀ i, i < m → ∀ k, k < n → f i k = 2 - eS E (lx + i) (ly + k) + pS V (lx + i) (ly + k)) : S2 f m n = 2 * m * n - sumL (E.map eB) + V.length := by
  rw [S2_congr hf]
  rw [show (fun i k : Nat => 2 - eS E (lx + i) (ly + k) + pS V (lx + i) (ly + k)) = fun i k : Nat => (2 + -eS E (lx + i) (ly + k)) + pS V (lx + i) (ly + k) from rfl, S2_plus, S2_plus, S2_neg, S2_const, S2_eS E hE, S2_pS V hV]; omega
/-! Convex rings whose edges are told by simple forms -/
theorem conv_w {ps : List (Int × Int)} (hh : hullF ps = ps) (h3 : 2 < ps.length) (hf : Few 40 ps) {X Y : Int} (f : Nat → Int) (hfe : ∀ i, i < ps.length → ∃ c, 0 < c ∧ edC ps (X, Y) i = c * f i) :
    ((∃ i, i < ps.length ∧ f i < 0) → wT ps X Y = 0) ∧ ((∀ i, i < ps.length → 0 ≤ f i) → (∃ i, i < ps.length ∧ f i = 0) → wT ps X Y = 1) ∧ ((∀ i, i < ps.length → 0 < f i) → wT ps X Y = 2) := by
  obtain ⟨k1, k2, k3⟩ := conv_sign hh h3 hf (X, Y)
  unfold wT
  refine ⟨fun ⟨i, hi, h⟩ => ?_, fun ha ⟨i, hi, h⟩ => ?_, fun ha => ?_⟩
  · obtain ⟨c, hc, e⟩ := hfe i hi
    have := Int.mul_pos hc (show 0 < -f i by omega)
    rw [Int.mul_neg] at this
    rw [k1 ⟨i, hi, by omega⟩]; rfl
  · obtain ⟨c, hc, e⟩ := hfe i hi
    have e2 : edC ps (X, Y) i = 0 := by rw [e, h, Int.mul_zero]
    rw [k2 (fun j hj => by obtain ⟨c, hc, e⟩ := hfe j hj; rw [e]; exact mulnnH (by omega) (ha j hj)) ⟨i, hi, e2⟩]; rfl
  · rw [k3 (fun j hj => by obtain ⟨c, hc, e⟩ := hfe j hj; rw [e]; exact Int.mul_pos hc (ha j hj))]; rfl
/-! The box of a list -/
theorem bxo_at {ps : List (Int × Int)} : ∀ k : Nat, 1 ≤ k → (∃ i, i < k ∧ (bxo ps k).1 = lim 1048576 (ps.getD i (0, 0)).1) ∧ (∃ i, i < k ∧ (bxo ps k).2.1 = lim 1048576 (ps.getD i (0, 0)).2) ∧ (∃ i, i < k ∧ (bxo ps k).2.2.1 = lim 1048576 (ps.getD i (0, 0)).1) ∧ (∃ i, i < k ∧ (bxo ps k).2.2.2 = lim 1048576 (ps.getD i (0, 0)).2)
  | 0, h => by omega
  | k + 1, _ => by
    by_cases c : k = 0
    · subst c
      rw [bxo_first rfl]
      unfold mn mx
      refine ⟨⟨0, by omega, ?_⟩, ⟨0, by omega, ?_⟩, ⟨0, by omega, ?_⟩, ⟨0, by omega, ?_⟩⟩ <;> dsimp only <;> split <;> rfl
    · obtain ⟨⟨i1, a1, b1⟩, ⟨i2, a2, b2⟩, ⟨i3, a3, b3⟩, ⟨i4, a4, b4⟩⟩ := bxo_at (ps := ps) k (by omega)
      rw [bxo_next c]
      unfold mn mx
      dsimp only
      refine ⟨?_, ?_, ?_, ?_⟩
      · split
        · exact ⟨k, by omega, rfl⟩
        · exact ⟨i1, by omega, b1⟩
      · split
        · exact ⟨k, by omega, rfl⟩
        · exact ⟨i2, by omega, b2⟩
      · split
        · exact ⟨k, by omega, rfl⟩
        · exact ⟨i3, by omega, b3⟩
      · split
        · exact ⟨k, by omega, rfl⟩
        · exact ⟨i4, by omega, b4⟩
theorem bxo_eq {ps : List (Int × Int)} {a b c d : Int} (hf : Few 40 ps) (hb : ∀ q ∈ ps, (a ≤ q.1 ∧ q.1 ≤ c) ∧ (b ≤ q.2 ∧ q.2 ≤ d)) (h1 : ∃ q ∈ ps, q.1 = a) (h2 : ∃ q ∈ ps, q.2 = b) (h3 : ∃ q ∈ ps, q.1 = c) (h4 : ∃ q ∈ ps, q.2 = d) : bxo ps ps.length = (a, b, c, d) := by
  have l0 : 1 ≤ ps.length := by
    obtain ⟨q, hq, _⟩ := h1
    cases ps with
    | nil => cases hq
    | cons _ _ => simp
  obtain ⟨⟨i1, a1, b1⟩, ⟨i2, a2, b2⟩, ⟨i3, a3, b3⟩, ⟨i4, a4, b4⟩⟩ := bxo_at (ps := ps) ps.length l0
  have key : ∀ i, i < ps.length → lim 1048576 (ps.getD i (0, 0)).1 = (ps.getD i (0, 0)).1 ∧ lim 1048576 (ps.getD i (0, 0)).2 = (ps.getD i (0, 0)).2 ∧ ((a ≤ (ps.getD i (0, 0)).1 ∧ (ps.getD i (0, 0)).1 ≤ c) ∧ (b ≤ (ps.getD i (0, 0)).2 ∧ (ps.getD i (0, 0)).2 ≤ d)) := fun i hi => by
    have := hf i
    exact ⟨lim_id (by omega) (by omega), lim_id (by omega) (by omega), hb _ (mem_getD hi)⟩
  have at_ : ∀ q ∈ ps, (((bxo ps ps.length).1 ≤ q.1 ∧ q.1 ≤ (bxo ps ps.length).2.2.1) ∧ ((bxo ps ps.length).2.1 ≤ q.2 ∧ q.2 ≤ (bxo ps ps.length).2.2.2)) := fun q hq => by
    obtain ⟨j, hj, e⟩ := List.mem_iff_getElem.1 hq
    have k := bxo_bd (ps := ps) ps.length j hj
    rw [(key j hj).1, (key j hj).2.1, getD_lt hj, e] at k
    exact k
  have k1 := key i1 a1
  have k2 := key i2 a2
  have k3 := key i3 a3
  have k4 := key i4 a4
  obtain ⟨q1, m1, e1⟩ := h1
  obtain ⟨q2, m2, e2⟩ := h2
  obtain ⟨q3, m3, e3⟩ := h3
  obtain ⟨q4, m4, e4⟩ := h4
  have g1 := at_ q1 m1
  have g2 := at_ q2 m2
  have g3 := at_ q3 m3
  have g4 := at_ q4 m4
  refine Prod.ext ?_ (Prod.ext ?_ (Prod.ext ?_ ?_)) <;> dsimp only <;> omega
/-- Pick's theorem for a ring, over its box -/
def Pick (ps : List (Int × Int)) (a b : Int) (m n : Nat) : Prop := S2 (fun i k => wT ps (a + i) (b + k)) m n = areaN ps + 2
end Go.Proofs.Ytomnkdlfmjdckaa.Am.Sp

set_option linter.unusedVariables false
set_option linter.unusedSimpArgs false
namespace Go.Proofs.Ytomnkdlfmjdckaa.Am.Sp
open Go
def octE (r k u v : Int) : Nat → Int
  | 0 => u + v + (r + k)
  | 1 => v + r
  | 2 => (r + k) - (u - v)
  | 3 => r - u
  | 4 => (r + k) - (u + v)
  | 5 => r - v
  | 6 => u - v + (r + k)
  | _ => u + r
set_option maxHeartbeats 4000000 in
theorem oct_w {x y r k u v : Int} (hr : 2 ≤ r) (hk : 1 ≤ k ∧ k < r) (hf : Few 40 [(x + (0 - r), y + (0 - k)), (x + (0 - k), y + (0 - r)), (x + k, y + (0 - r)), (x + r, y + (0 - k)), (x + r, y + k), (x + k, y + r), (x + (0 - k), y + r), (x + (0 - r), y + k)]) (hu : -r ≤ u ∧ u ≤ r) (hv : -r ≤ v ∧ v ≤ r) : wT [(x + (0 - r), y + (0 - k)), (x + (0 - k), y + (0 - r)), (x + k, y + (0 - r)), (x + r, y + (0 - k)), (x + r, y + k), (x + k, y + r), (x + (0 - k), y + r), (x + (0 - r), y + k)] (x + u) (y + v) = 2 - eS [((x + (0 - r), y + (0 - k)), (x + (0 - k), y + (0 - r))), ((x + (0 - k), y + (0 - r)), (x + k, y + (0 - r))), ((x + k, y + (0 - r)), (x + r, y + (0 - k))), ((x + r, y + (0 - k)), (x + r, y + k)), ((x + r, y + k), (x + k, y + r)), ((x + k, y + r), (x + (0 - k), y + r)), ((x + (0 - k), y + r), (x + (0 - r), y + k)), ((x + (0 - r), y + k), (x + (0 - r), y + (0 - k)))] (x + u) (y + v) + pS [(x + (0 - r), y + (0 - k)), (x + (0 - k), y + (0 - r)), (x + k, y + (0 - r)), (x + r, y + (0 - k)), (x + r, y + k), (x + k, y + r), (x + (0 - k), y + r), (x + (0 - r), y + k)] (x + u) (y + v) := by
  have c0 : crP (x + (0 - r), y + (0 - k)) (x + (0 - k), y + (0 - r)) (x + u, y + v) = (r - k) * (u + v + (r + k)) := by unfold crP crs; grind
  have c1 : crP (x + (0 - k), y + (0 - r)) (x + k, y + (0 - r)) (x + u, y + v) = (2 * k) * (v + r) := by unfold crP crs; grind
  have c2 : crP (x + k, y + (0 - r)) (x + r, y + (0 - k)) (x + u, y + v) = (r - k) * ((r + k) - (u - v)) := by unfold crP crs; grind
  have c3 : crP (x + r, y + (0 - k)) (x + r, y + k) (x + u, y + v) = (2 * k) * (r - u) := by unfold crP crs; grind
  have c4 : crP (x + r, y + k) (x + k, y + r) (x + u, y + v) = (r - k) * ((r + k) - (u + v)) := by unfold crP crs; grind
  have c5 : crP (x + k, y + r) (x + (0 - k), y + r) (x + u, y + v) = (2 * k) * (r - v) := by unfold crP crs; grind
  have c6 : crP (x + (0 - k), y + r) (x + (0 - r), y + k) (x + u, y + v) = (r - k) * (u - v + (r + k)) := by unfold crP crs; grind
  have c7 : crP (x + (0 - r), y + k) (x + (0 - r), y + (0 - k)) (x + u, y + v) = (2 * k) * (u + r) := by unfold crP crs; grind
  obtain ⟨k1, k2, k3⟩ := conv_w (ps := [(x + (0 - r), y + (0 - k)), (x + (0 - k), y + (0 - r)), (x + k, y + (0 - r)), (x + r, y + (0 - k)), (x + r, y + k), (x + k, y + r), (x + (0 - k), y + r), (x + (0 - r), y + k)]) (oct_hull hr hk) (show 2 < 8 by decide) hf (X := x + u) (Y := y + v) (octE r k u v) (fun i hi => by
    rcases (show i = 0 ∨ i = 1 ∨ i = 2 ∨ i = 3 ∨ i = 4 ∨ i = 5 ∨ i = 6 ∨ i = 7 by have hi' : i < 8 := hi; omega) with rfl | rfl | rfl | rfl | rfl | rfl | rfl | rfl
    · exact ⟨(r - k), by omega, c0⟩
    · exact ⟨(2 * k), by omega, c1⟩
    · exact ⟨(r - k), by omega, c2⟩
    · exact ⟨(2 * k), by omega, c3⟩
    · exact ⟨(r - k), by omega, c4⟩
    · exact ⟨(2 * k), by omega, c5⟩
    · exact ⟨(r - k), by omega, c6⟩
    · exact ⟨(2 * k), by omega, show crP ([(x + (0 - r), y + (0 - k)), (x + (0 - k), y + (0 - r)), (x + k, y + (0 - r)), (x + r, y + (0 - k)), (x + r, y + k), (x + k, y + r), (x + (0 - k), y + r), (x + (0 - r), y + k)].getD 7 (0, 0)) ([(x + (0 - r), y + (0 - k)), (x + (0 - k), y + (0 - r)), (x + k, y + (0 - r)), (x + r, y + (0 - k)), (x + r, y + k), (x + k, y + r), (x + (0 - k), y + r), (x + (0 - r), y + k)].getD ((7 + 1) % 8) (0, 0)) (x + u, y + v) = (2 * k) * (u + r) from c7⟩
    )
  have kn := fun (i : Nat) (hi : i < 8) (h : octE r k u v i < 0) => k1 ⟨i, hi, h⟩
  have kz := fun (h : 0 ≤ u + v + (r + k) ∧ 0 ≤ v + r ∧ 0 ≤ (r + k) - (u - v) ∧ 0 ≤ r - u ∧ 0 ≤ (r + k) - (u + v) ∧ 0 ≤ r - v ∧ 0 ≤ u - v + (r + k) ∧ 0 ≤ u + r) (i : Nat) (hi : i < 8) (hz : octE r k u v i = 0) => k2 (fun i hi => by
    rcases (show i = 0 ∨ i = 1 ∨ i = 2 ∨ i = 3 ∨ i = 4 ∨ i = 5 ∨ i = 6 ∨ i = 7 by have hi' : i < 8 := hi; omega) with rfl | rfl | rfl | rfl | rfl | rfl | rfl | rfl
    · exact h.1
    · exact h.2.1
    · exact h.2.2.1
    · exact h.2.2.2.1
    · exact h.2.2.2.2.1
    · exact h.2.2.2.2.2.1
    · exact h.2.2.2.2.2.2.1
    · exact h.2.2.2.2.2.2.2) ⟨i, hi, hz⟩
  have kp := fun (h : 0 < u + v + (r + k) ∧ 0 < v + r ∧ 0 < (r + k) - (u - v) ∧ 0 < r - u ∧ 0 < (r + k) - (u + v) ∧ 0 < r - v ∧ 0 < u - v + (r + k) ∧ 0 < u + r) => k3 (fun i hi => by
    rcases (show i = 0 ∨ i = 1 ∨ i = 2 ∨ i = 3 ∨ i = 4 ∨ i = 5 ∨ i = 6 ∨ i = 7 by have hi' : i < 8 := hi; omega) with rfl | rfl | rfl | rfl | rfl | rfl | rfl | rfl
    · exact h.1
    · exact h.2.1
    · exact h.2.2.1
    · exact h.2.2.2.1
    · exact h.2.2.2.2.1
    · exact h.2.2.2.2.2.1
    · exact h.2.2.2.2.2.2.1
    · exact h.2.2.2.2.2.2.2)
  clear k1 k2 k3
  show _ = 2 - (eW (x + (0 - r), y + (0 - k)) (x + (0 - k), y + (0 - r)) (x + u) (y + v) + (eW (x + (0 - k), y + (0 - r)) (x + k, y + (0 - r)) (x + u) (y + v) + (eW (x + k, y + (0 - r)) (x + r, y + (0 - k)) (x + u) (y + v) + (eW (x + r, y + (0 - k)) (x + r, y + k) (x + u) (y + v) + (eW (x + r, y + k) (x + k, y + r) (x + u) (y + v) + (eW (x + k, y + r) (x + (0 - k), y + r) (x + u) (y + v) + (eW (x + (0 - k), y + r) (x + (0 - r), y + k) (x + u) (y + v) + (eW (x + (0 - r), y + k) (x + (0 - r), y + (0 - k)) (x + u) (y + v) + (0))))))))) + (ptW (x + (0 - r), y + (0 - k)) (x + u) (y + v) + (ptW (x + (0 - k), y + (0 - r)) (x + u) (y + v) + (ptW (x + k, y + (0 - r)) (x + u) (y + v) + (ptW (x + r, y + (0 - k)) (x + u) (y + v) + (ptW (x + r, y + k) (x + u) (y + v) + (ptW (x + k, y + r) (x + u) (y + v) + (ptW (x + (0 - k), y + r) (x + u) (y + v) + (ptW (x + (0 - r), y + k) (x + u) (y + v) + (0)))))))))
  by_cases d0 : u ≤ -k ∧ v ≤ -k
  · skip
    rcases Int.lt_trichotomy (u + v + (r + k)) 0 with l | l | l
    · skip
      have w := kn 0 (by decide) (show u + v + (r + k) < 0 by omega)
      have e0 : eW (x + (0 - r), y + (0 - k)) (x + (0 - k), y + (0 - r)) (x + u) (y + v) = 2 := eW_two (z := u + v + (r + k)) (by omega) c0 (by omega) (by dsimp only; omega)
      have e1 : eW (x + (0 - k), y + (0 - r)) (x + k, y + (0 - r)) (x + u) (y + v) = 0 := eW_out (by dsimp only; omega)
      have e2 : eW (x + k, y + (0 - r)) (x + r, y + (0 - k)) (x + u) (y + v) = 0 := eW_out (by dsimp only; omega)
      have e3 : eW (x + r, y + (0 - k)) (x + r, y + k) (x + u) (y + v) = 0 := eW_out (by dsimp only; omega)
      have e4 : eW (x + r, y + k) (x + k, y + r) (x + u) (y + v) = 0 := eW_out (by dsimp only; omega)
      have e5 : eW (x + k, y + r) (x + (0 - k), y + r) (x + u) (y + v) = 0 := eW_out (by dsimp only; omega)
      have e6 : eW (x + (0 - k), y + r) (x + (0 - r), y + k) (x + u) (y + v) = 0 := eW_out (by dsimp only; omega)
      have e7 : eW (x + (0 - r), y + k) (x + (0 - r), y + (0 - k)) (x + u) (y + v) = 0 := eW_out (by dsimp only; omega)
      have p0 : ptW (x + (0 - r), y + (0 - k)) (x + u) (y + v) = 0 := ptW_0 (by dsimp only; omega)
      have p1 : ptW (x + (0 - k), y + (0 - r)) (x + u) (y + v) = 0 := ptW_0 (by dsimp only; omega)
      have p2 : ptW (x + k, y + (0 - r)) (x + u) (y + v) = 0 := ptW_0 (by dsimp only; omega)
      have p3 : ptW (x + r, y + (0 - k)) (x + u) (y + v) = 0 := ptW_0 (by dsimp only; omega)
      have p4 : ptW (x + r, y + k) (x + u) (y + v) = 0 := ptW_0 (by dsimp only; omega)
      have p5 : ptW (x + k, y + r) (x + u) (y + v) = 0 := ptW_0 (by dsimp only; omega)
      have p6 : ptW (x + (0 - k), y + r) (x + u) (y + v) = 0 := ptW_0 (by dsimp only; omega)
      have p7 : ptW (x + (0 - r), y + k) (x + u) (y + v) = 0 := ptW_0 (by dsimp only; omega)
      rw [w, e0, e1, e2, e3, e4, e5, e6, e7, p0, p1, p2, p3, p4, p5, p6, p7]; rfl
    · by_cases ca : u = -r
      · skip
        have w := kz (by omega) 0 (by decide) (show u + v + (r + k) = 0 by omega)
        have e0 : eW (x + (0 - r), y + (0 - k)) (x + (0 - k), y + (0 - r)) (x + u) (y + v) = 1 := eW_one (z := u + v + (r + k)) (by omega) c0 (by omega) (by dsimp only; omega)
        have e1 : eW (x + (0 - k), y + (0 - r)) (x + k, y + (0 - r)) (x + u) (y + v) = 0 := eW_out (by dsimp only; omega)
        have e2 : eW (x + k, y + (0 - r)) (x + r, y + (0 - k)) (x + u) (y + v) = 0 := eW_out (by dsimp only; omega)
        have e3 : eW (x + r, y + (0 - k)) (x + r, y + k) (x + u) (y + v) = 0 := eW_out (by dsimp only; omega)
        have e4 : eW (x + r, y + k) (x + k, y + r) (x + u) (y + v) = 0 := eW_out (by dsimp only; omega)
        have e5 : eW (x + k, y + r) (x + (0 - k), y + r) (x + u) (y + v) = 0 := eW_out (by dsimp only; omega)
        have e6 : eW (x + (0 - k), y + r) (x + (0 - r), y + k) (x + u) (y + v) = 0 := eW_out (by dsimp only; omega)
        have e7 : eW (x + (0 - r), y + k) (x + (0 - r), y + (0 - k)) (x + u) (y + v) = 1 := eW_one (z := u + r) (by omega) c7 (by omega) (by dsimp only; omega)
        have p0 : ptW (x + (0 - r), y + (0 - k)) (x + u) (y + v) = 1 := ptW_1 (by dsimp only; omega)
        have p1 : ptW (x + (0 - k), y + (0 - r)) (x + u) (y + v) = 0 := ptW_0 (by dsimp only; omega)
        have p2 : ptW (x + k, y + (0 - r)) (x + u) (y + v) = 0 := ptW_0 (by dsimp only; omega)
        have p3 : ptW (x + r, y + (0 - k)) (x + u) (y + v) = 0 := ptW_0 (by dsimp only; omega)
        have p4 : ptW (x + r, y + k) (x + u) (y + v) = 0 := ptW_0 (by dsimp only; omega)
        have p5 : ptW (x + k, y + r) (x + u) (y + v) = 0 := ptW_0 (by dsimp only; omega)
        have p6 : ptW (x + (0 - k), y + r) (x + u) (y + v) = 0 := ptW_0 (by dsimp only; omega)
        have p7 : ptW (x + (0 - r), y + k) (x + u) (y + v) = 0 := ptW_0 (by dsimp only; omega)
        rw [w, e0, e1, e2, e3, e4, e5, e6, e7, p0, p1, p2, p3, p4, p5, p6, p7]; rfl
      · by_cases cb : u = -k
        · skip
          have w := kz (by omega) 0 (by decide) (show u + v + (r + k) = 0 by omega)
          have e0 : eW (x + (0 - r), y + (0 - k)) (x + (0 - k), y + (0 - r)) (x + u) (y + v) = 1 := eW_one (z := u + v + (r + k)) (by omega) c0 (by omega) (by dsimp only; omega)
          have e1 : eW (x + (0 - k), y + (0 - r)) (x + k, y + (0 - r)) (x + u) (y + v) = 1 := eW_one (z := v + r) (by omega) c1 (by omega) (by dsimp only; omega)
          have e2 : eW (x + k, y + (0 - r)) (x + r, y + (0 - k)) (x + u) (y + v) = 0 := eW_out (by dsimp only; omega)
          have e3 : eW (x + r, y + (0 - k)) (x + r, y + k) (x + u) (y + v) = 0 := eW_out (by dsimp only; omega)
          have e4 : eW (x + r, y + k) (x + k, y + r) (x + u) (y + v) = 0 := eW_out (by dsimp only; omega)
          have e5 : eW (x + k, y + r) (x + (0 - k), y + r) (x + u) (y + v) = 0 := eW_out (by dsimp only; omega)
          have e6 : eW (x + (0 - k), y + r) (x + (0 - r), y + k) (x + u) (y + v) = 0 := eW_out (by dsimp only; omega)
          have e7 : eW (x + (0 - r), y + k) (x + (0 - r), y + (0 - k)) (x + u) (y + v) = 0 := eW_out (by dsimp only; omega)
          have p0 : ptW (x + (0 - r), y + (0 - k)) (x + u) (y + v) = 0 := ptW_0 (by dsimp only; omega)
          have p1 : ptW (x + (0 - k), y + (0 - r)) (x + u) (y + v) = 1 := ptW_1 (by dsimp only; omega)
          have p2 : ptW (x + k, y + (0 - r)) (x + u) (y + v) = 0 := ptW_0 (by dsimp only; omega)
          have p3 : ptW (x + r, y + (0 - k)) (x + u) (y + v) = 0 := ptW_0 (by dsimp only; omega)
          have p4 : ptW (x + r, y + k) (x + u) (y + v) = 0 := ptW_0 (by dsimp only; omega)
          have p5 : ptW (x + k, y + r) (x + u) (y + v) = 0 := ptW_0 (by dsimp only; omega)
          have p6 : ptW (x + (0 - k), y + r) (x + u) (y + v) = 0 := ptW_0 (by dsimp only; omega)
          have p7 : ptW (x + (0 - r), y + k) (x + u) (y + v) = 0 := ptW_0 (by dsimp only; omega)
          rw [w, e0, e1, e2, e3, e4, e5, e6, e7, p0, p1, p2, p3, p4, p5, p6, p7]; rfl
        · skip
          have w := kz (by omega) 0 (by decide) (show u + v + (r + k) = 0 by omega)
          have e0 : eW (x + (0 - r), y + (0 - k)) (x + (0 - k), y + (0 - r)) (x + u) (y + v) = 1 := eW_one (z := u + v + (r + k)) (by omega) c0 (by omega) (by dsimp only; omega)
          have e1 : eW (x + (0 - k), y + (0 - r)) (x + k, y + (0 - r)) (x + u) (y + v) = 0 := eW_out (by dsimp only; omega)
          have e2 : eW (x + k, y + (0 - r)) (x + r, y + (0 - k)) (x + u) (y + v) = 0 := eW_out (by dsimp only; omega)
          have e3 : eW (x + r, y + (0 - k)) (x + r, y + k) (x + u) (y + v) = 0 := eW_out (by dsimp only; omega)
          have e4 : eW (x + r, y + k) (x + k, y + r) (x + u) (y + v) = 0 := eW_out (by dsimp only; omega)
          have e5 : eW (x + k, y + r) (x + (0 - k), y + r) (x + u) (y + v) = 0 := eW_out (by dsimp only; omega)
          have e6 : eW (x + (0 - k), y + r) (x + (0 - r), y + k) (x + u) (y + v) = 0 := eW_out (by dsimp only; omega)
          have e7 : eW (x + (0 - r), y + k) (x + (0 - r), y + (0 - k)) (x + u) (y + v) = 0 := eW_out (by dsimp only; omega)
          have p0 : ptW (x + (0 - r), y + (0 - k)) (x + u) (y + v) = 0 := ptW_0 (by dsimp only; omega)
          have p1 : ptW (x + (0 - k), y + (0 - r)) (x + u) (y + v) = 0 := ptW_0 (by dsimp only; omega)
          have p2 : ptW (x + k, y + (0 - r)) (x + u) (y + v) = 0 := ptW_0 (by dsimp only; omega)
          have p3 : ptW (x + r, y + (0 - k)) (x + u) (y + v) = 0 := ptW_0 (by dsimp only; omega)
          have p4 : ptW (x + r, y + k) (x + u) (y + v) = 0 := ptW_0 (by dsimp only; omega)
          have p5 : ptW (x + k, y + r) (x + u) (y + v) = 0 := ptW_0 (by dsimp only; omega)
          have p6 : ptW (x + (0 - k), y + r) (x + u) (y + v) = 0 := ptW_0 (by dsimp only; omega)
          have p7 : ptW (x + (0 - r), y + k) (x + u) (y + v) = 0 := ptW_0 (by dsimp only; omega)
          rw [w, e0, e1, e2, e3, e4, e5, e6, e7, p0, p1, p2, p3, p4, p5, p6, p7]; rfl
    · skip
      have w := kp (by omega)
      have e0 : eW (x + (0 - r), y + (0 - k)) (x + (0 - k), y + (0 - r)) (x + u) (y + v) = 0 := eW_pos (z := u + v + (r + k)) (by omega) c0 (by omega)
      have e1 : eW (x + (0 - k), y + (0 - r)) (x + k, y + (0 - r)) (x + u) (y + v) = 0 := eW_out (by dsimp only; omega)
      have e2 : eW (x + k, y + (0 - r)) (x + r, y + (0 - k)) (x + u) (y + v) = 0 := eW_out (by dsimp only; omega)
      have e3 : eW (x + r, y + (0 - k)) (x + r, y + k) (x + u) (y + v) = 0 := eW_out (by dsimp only; omega)
      have e4 : eW (x + r, y + k) (x + k, y + r) (x + u) (y + v) = 0 := eW_out (by dsimp only; omega)
      have e5 : eW (x + k, y + r) (x + (0 - k), y + r) (x + u) (y + v) = 0 := eW_out (by dsimp only; omega)
      have e6 : eW (x + (0 - k), y + r) (x + (0 - r), y + k) (x + u) (y + v) = 0 := eW_out (by dsimp only; omega)
      have e7 : eW (x + (0 - r), y + k) (x + (0 - r), y + (0 - k)) (x + u) (y + v) = 0 := eW_out (by dsimp only; omega)
      have p0 : ptW (x + (0 - r), y + (0 - k)) (x + u) (y + v) = 0 := ptW_0 (by dsimp only; omega)
      have p1 : ptW (x + (0 - k), y + (0 - r)) (x + u) (y + v) = 0 := ptW_0 (by dsimp only; omega)
      have p2 : ptW (x + k, y + (0 - r)) (x + u) (y + v) = 0 := ptW_0 (by dsimp only; omega)
      have p3 : ptW (x + r, y + (0 - k)) (x + u) (y + v) = 0 := ptW_0 (by dsimp only; omega)
      have p4 : ptW (x + r, y + k) (x + u) (y + v) = 0 := ptW_0 (by dsimp only; omega)
      have p5 : ptW (x + k, y + r) (x + u) (y + v) = 0 := ptW_0 (by dsimp only; omega)
      have p6 : ptW (x + (0 - k), y + r) (x + u) (y + v) = 0 := ptW_0 (by dsimp only; omega)
      have p7 : ptW (x + (0 - r), y + k) (x + u) (y + v) = 0 := ptW_0 (by dsimp only; omega)
      rw [w, e0, e1, e2, e3, e4, e5, e6, e7, p0, p1, p2, p3, p4, p5, p6, p7]; rfl
  by_cases d2 : k ≤ u ∧ v ≤ -k
  · skip
    rcases Int.lt_trichotomy ((r + k) - (u - v)) 0 with l | l | l
    · skip
      have w := kn 2 (by decide) (show (r + k) - (u - v) < 0 by omega)
      have e0 : eW (x + (0 - r), y + (0 - k)) (x + (0 - k), y + (0 - r)) (x + u) (y + v) = 0 := eW_out (by dsimp only; omega)
      have e1 : eW (x + (0 - k), y + (0 - r)) (x + k, y + (0 - r)) (x + u) (y + v) = 0 := eW_out (by dsimp only; omega)
      have e2 : eW (x + k, y + (0 - r)) (x + r, y + (0 - k)) (x + u) (y + v) = 2 := eW_two (z := (r + k) - (u - v)) (by omega) c2 (by omega) (by dsimp only; omega)
      have e3 : eW (x + r, y + (0 - k)) (x + r, y + k) (x + u) (y + v) = 0 := eW_out (by dsimp only; omega)
      have e4 : eW (x + r, y + k) (x + k, y + r) (x + u) (y + v) = 0 := eW_out (by dsimp only; omega)
      have e5 : eW (x + k, y + r) (x + (0 - k), y + r) (x + u) (y + v) = 0 := eW_out (by dsimp only; omega)
      have e6 : eW (x + (0 - k), y + r) (x + (0 - r), y + k) (x + u) (y + v) = 0 := eW_out (by dsimp only; omega)
      have e7 : eW (x + (0 - r), y + k) (x + (0 - r), y + (0 - k)) (x + u) (y + v) = 0 := eW_out (by dsimp only; omega)
      have p0 : ptW (x + (0 - r), y + (0 - k)) (x + u) (y + v) = 0 := ptW_0 (by dsimp only; omega)
      have p1 : ptW (x + (0 - k), y + (0 - r)) (x + u) (y + v) = 0 := ptW_0 (by dsimp only; omega)
      have p2 : ptW (x + k, y + (0 - r)) (x + u) (y + v) = 0 := ptW_0 (by dsimp only; omega)
      have p3 : ptW (x + r, y + (0 - k)) (x + u) (y + v) = 0 := ptW_0 (by dsimp only; omega)
      have p4 : ptW (x + r, y + k) (x + u) (y + v) = 0 := ptW_0 (by dsimp only; omega)
      have p5 : ptW (x + k, y + r) (x + u) (y + v) = 0 := ptW_0 (by dsimp only; omega)
      have p6 : ptW (x + (0 - k), y + r) (x + u) (y + v) = 0 := ptW_0 (by dsimp only; omega)
      have p7 : ptW (x + (0 - r), y + k) (x + u) (y + v) = 0 := ptW_0 (by dsimp only; omega)
      rw [w, e0, e1, e2, e3, e4, e5, e6, e7, p0, p1, p2, p3, p4, p5, p6, p7]; rfl
    · by_cases ca : u = r
      · skip
        have w := kz (by omega) 2 (by decide) (show (r + k) - (u - v) = 0 by omega)
        have e0 : eW (x + (0 - r), y + (0 - k)) (x + (0 - k), y + (0 - r)) (x + u) (y + v) = 0 := eW_out (by dsimp only; omega)
        have e1 : eW (x + (0 - k), y + (0 - r)) (x + k, y + (0 - r)) (x + u) (y + v) = 0 := eW_out (by dsimp only; omega)
        have e2 : eW (x + k, y + (0 - r)) (x + r, y + (0 - k)) (x + u) (y + v) = 1 := eW_one (z := (r + k) - (u - v)) (by omega) c2 (by omega) (by dsimp only; omega)
        have e3 : eW (x + r, y + (0 - k)) (x + r, y + k) (x + u) (y + v) = 1 := eW_one (z := r - u) (by omega) c3 (by omega) (by dsimp only; omega)
        have e4 : eW (x + r, y + k) (x + k, y + r) (x + u) (y + v) = 0 := eW_out (by dsimp only; omega)
        have e5 : eW (x + k, y + r) (x + (0 - k), y + r) (x + u) (y + v) = 0 := eW_out (by dsimp only; omega)
        have e6 : eW (x + (0 - k), y + r) (x + (0 - r), y + k) (x + u) (y + v) = 0 := eW_out (by dsimp only; omega)
        have e7 : eW (x + (0 - r), y + k) (x + (0 - r), y + (0 - k)) (x + u) (y + v) = 0 := eW_out (by dsimp only; omega)
        have p0 : ptW (x + (0 - r), y + (0 - k)) (x + u) (y + v) = 0 := ptW_0 (by dsimp only; omega)
        have p1 : ptW (x + (0 - k), y + (0 - r)) (x + u) (y + v) = 0 := ptW_0 (by dsimp only; omega)
        have p2 : ptW (x + k, y + (0 - r)) (x + u) (y + v) = 0 := ptW_0 (by dsimp only; omega)
        have p3 : ptW (x + r, y + (0 - k)) (x + u) (y + v) = 1 := ptW_1 (by dsimp only; omega)
        have p4 : ptW (x + r, y + k) (x + u) (y + v) = 0 := ptW_0 (by dsimp only; omega)
        have p5 : ptW (x + k, y + r) (x + u) (y + v) = 0 := ptW_0 (by dsimp only; omega)
        have p6 : ptW (x + (0 - k), y + r) (x + u) (y + v) = 0 := ptW_0 (by dsimp only; omega)
        have p7 : ptW (x + (0 - r), y + k) (x + u) (y + v) = 0 := ptW_0 (by dsimp only; omega)
        rw [w, e0, e1, e2, e3, e4, e5, e6, e7, p0, p1, p2, p3, p4, p5, p6, p7]; rfl
      · by_cases cb : u = k
        · skip
          have w := kz (by omega) 1 (by decide) (show v + r = 0 by omega)
          have e0 : eW (x + (0 - r), y + (0 - k)) (x + (0 - k), y + (0 - r)) (x + u) (y + v) = 0 := eW_out (by dsimp only; omega)
          have e1 : eW (x + (0 - k), y + (0 - r)) (x + k, y + (0 - r)) (x + u) (y + v) = 1 := eW_one (z := v + r) (by omega) c1 (by omega) (by dsimp only; omega)
          have e2 : eW (x + k, y + (0 - r)) (x + r, y + (0 - k)) (x + u) (y + v) = 1 := eW_one (z := (r + k) - (u - v)) (by omega) c2 (by omega) (by dsimp only; omega)
          have e3 : eW (x + r, y + (0 - k)) (x + r, y + k) (x + u) (y + v) = 0 := eW_out (by dsimp only; omega)
          have e4 : eW (x + r, y + k) (x + k, y + r) (x + u) (y + v) = 0 := eW_out (by dsimp only; omega)
          have e5 : eW (x + k, y + r) (x + (0 - k), y + r) (x + u) (y + v) = 0 := eW_out (by dsimp only; omega)
          have e6 : eW (x + (0 - k), y + r) (x + (0 - r), y + k) (x + u) (y + v) = 0 := eW_out (by dsimp only; omega)
          have e7 : eW (x + (0 - r), y + k) (x + (0 - r), y + (0 - k)) (x + u) (y + v) = 0 := eW_out (by dsimp only; omega)
          have p0 : ptW (x + (0 - r), y + (0 - k)) (x + u) (y + v) = 0 := ptW_0 (by dsimp only; omega)
          have p1 : ptW (x + (0 - k), y + (0 - r)) (x + u) (y + v) = 0 := ptW_0 (by dsimp only; omega)
          have p2 : ptW (x + k, y + (0 - r)) (x + u) (y + v) = 1 := ptW_1 (by dsimp only; omega)
          have p3 : ptW (x + r, y + (0 - k)) (x + u) (y + v) = 0 := ptW_0 (by dsimp only; omega)
          have p4 : ptW (x + r, y + k) (x + u) (y + v) = 0 := ptW_0 (by dsimp only; omega)
          have p5 : ptW (x + k, y + r) (x + u) (y + v) = 0 := ptW_0 (by dsimp only; omega)
          have p6 : ptW (x + (0 - k), y + r) (x + u) (y + v) = 0 := ptW_0 (by dsimp only; omega)
          have p7 : ptW (x + (0 - r), y + k) (x + u) (y + v) = 0 := ptW_0 (by dsimp only; omega)
          rw [w, e0, e1, e2, e3, e4, e5, e6, e7, p0, p1, p2, p3, p4, p5, p6, p7]; rfl
        · skip
          have w := kz (by omega) 2 (by decide) (show (r + k) - (u - v) = 0 by omega)
          have e0 : eW (x + (0 - r), y + (0 - k)) (x + (0 - k), y + (0 - r)) (x + u) (y + v) = 0 := eW_out (by dsimp only; omega)
          have e1 : eW (x + (0 - k), y + (0 - r)) (x + k, y + (0 - r)) (x + u) (y + v) = 0 := eW_out (by dsimp only; omega)
          have e2 : eW (x + k, y + (0 - r)) (x + r, y + (0 - k)) (x + u) (y + v) = 1 := eW_one (z := (r + k) - (u - v)) (by omega) c2 (by omega) (by dsimp only; omega)
          have e3 : eW (x + r, y + (0 - k)) (x + r, y + k) (x + u) (y + v) = 0 := eW_out (by dsimp only; omega)
          have e4 : eW (x + r, y + k) (x + k, y + r) (x + u) (y + v) = 0 := eW_out (by dsimp only; omega)
          have e5 : eW (x + k, y + r) (x + (0 - k), y + r) (x + u) (y + v) = 0 := eW_out (by dsimp only; omega)
          have e6 : eW (x + (0 - k), y + r) (x + (0 - r), y + k) (x + u) (y + v) = 0 := eW_out (by dsimp only; omega)
          have e7 : eW (x + (0 - r), y + k) (x + (0 - r), y + (0 - k)) (x + u) (y + v) = 0 := eW_out (by dsimp only; omega)
          have p0 : ptW (x + (0 - r), y + (0 - k)) (x + u) (y + v) = 0 := ptW_0 (by dsimp only; omega)
          have p1 : ptW (x + (0 - k), y + (0 - r)) (x + u) (y + v) = 0 := ptW_0 (by dsimp only; omega)
          have p2 : ptW (x + k, y + (0 - r)) (x + u) (y + v) = 0 := ptW_0 (by dsimp only; omega)
          have p3 : ptW (x + r, y + (0 - k)) (x + u) (y + v) = 0 := ptW_0 (by dsimp only; omega)
          have p4 : ptW (x + r, y + k) (x + u) (y + v) = 0 := ptW_0 (by dsimp only; omega)
          have p5 : ptW (x + k, y + r) (x + u) (y + v) = 0 := ptW_0 (by dsimp only; omega)
          have p6 : ptW (x + (0 - k), y + r) (x + u) (y + v) = 0 := ptW_0 (by dsimp only; omega)
          have p7 : ptW (x + (0 - r), y + k) (x + u) (y + v) = 0 := ptW_0 (by dsimp only; omega)
          rw [w, e0, e1, e2, e3, e4, e5, e6, e7, p0, p1, p2, p3, p4, p5, p6, p7]; rfl
    · skip
      have w := kp (by omega)
      have e0 : eW (x + (0 - r), y + (0 - k)) (x + (0 - k), y + (0 - r)) (x + u) (y + v) = 0 := eW_out (by dsimp only; omega)
      have e1 : eW (x + (0 - k), y + (0 - r)) (x + k, y + (0 - r)) (x + u) (y + v) = 0 := eW_out (by dsimp only; omega)
      have e2 : eW (x + k, y + (0 - r)) (x + r, y + (0 - k)) (x + u) (y + v) = 0 := eW_pos (z := (r + k) - (u - v)) (by omega) c2 (by omega)
      have e3 : eW (x + r, y + (0 - k)) (x + r, y + k) (x + u) (y + v) = 0 := eW_out (by dsimp only; omega)
      have e4 : eW (x + r, y + k) (x + k, y + r) (x + u) (y + v) = 0 := eW_out (by dsimp only; omega)
      have e5 : eW (x + k, y + r) (x + (0 - k), y + r) (x + u) (y + v) = 0 := eW_out (by dsimp only; omega)
      have e6 : eW (x + (0 - k), y + r) (x + (0 - r), y + k) (x + u) (y + v) = 0 := eW_out (by dsimp only; omega)
      have e7 : eW (x + (0 - r), y + k) (x + (0 - r), y + (0 - k)) (x + u) (y + v) = 0 := eW_out (by dsimp only; omega)
      have p0 : ptW (x + (0 - r), y + (0 - k)) (x + u) (y + v) = 0 := ptW_0 (by dsimp only; omega)
      have p1 : ptW (x + (0 - k), y + (0 - r)) (x + u) (y + v) = 0 := ptW_0 (by dsimp only; omega)
      have p2 : ptW (x + k, y + (0 - r)) (x + u) (y + v) = 0 := ptW_0 (by dsimp only; omega)
      have p3 : ptW (x + r, y + (0 - k)) (x + u) (y + v) = 0 := ptW_0 (by dsimp only; omega)
      have p4 : ptW (x + r, y + k) (x + u) (y + v) = 0 := ptW_0 (by dsimp only; omega)
      have p5 : ptW (x + k, y + r) (x + u) (y + v) = 0 := ptW_0 (by dsimp only; omega)
      have p6 : ptW (x + (0 - k), y + r) (x + u) (y + v) = 0 := ptW_0 (by dsimp only; omega)
      have p7 : ptW (x + (0 - r), y + k) (x + u) (y + v) = 0 := ptW_0 (by dsimp only; omega)
      rw [w, e0, e1, e2, e3, e4, e5, e6, e7, p0, p1, p2, p3, p4, p5, p6, p7]; rfl
  by_cases d4 : k ≤ u ∧ k ≤ v
  · skip
    rcases Int.lt_trichotomy ((r + k) - (u + v)) 0 with l | l | l
    · skip
      have w := kn 4 (by decide) (show (r + k) - (u + v) < 0 by omega)
      have e0 : eW (x + (0 - r), y + (0 - k)) (x + (0 - k), y + (0 - r)) (x + u) (y + v) = 0 := eW_out (by dsimp only; omega)
      have e1 : eW (x + (0 - k), y + (0 - r)) (x + k, y + (0 - r)) (x + u) (y + v) = 0 := eW_out (by dsimp only; omega)
      have e2 : eW (x + k, y + (0 - r)) (x + r, y + (0 - k)) (x + u) (y + v) = 0 := eW_out (by dsimp only; omega)
      have e3 : eW (x + r, y + (0 - k)) (x + r, y + k) (x + u) (y + v) = 0 := eW_out (by dsimp only; omega)
      have e4 : eW (x + r, y + k) (x + k, y + r) (x + u) (y + v) = 2 := eW_two (z := (r + k) - (u + v)) (by omega) c4 (by omega) (by dsimp only; omega)
      have e5 : eW (x + k, y + r) (x + (0 - k), y + r) (x + u) (y + v) = 0 := eW_out (by dsimp only; omega)
      have e6 : eW (x + (0 - k), y + r) (x + (0 - r), y + k) (x + u) (y + v) = 0 := eW_out (by dsimp only; omega)
      have e7 : eW (x + (0 - r), y + k) (x + (0 - r), y + (0 - k)) (x + u) (y + v) = 0 := eW_out (by dsimp only; omega)
      have p0 : ptW (x + (0 - r), y + (0 - k)) (x + u) (y + v) = 0 := ptW_0 (by dsimp only; omega)
      have p1 : ptW (x + (0 - k), y + (0 - r)) (x + u) (y + v) = 0 := ptW_0 (by dsimp only; omega)
      have p2 : ptW (x + k, y + (0 - r)) (x + u) (y + v) = 0 := ptW_0 (by dsimp only; omega)
      have p3 : ptW (x + r, y + (0 - k)) (x + u) (y + v) = 0 := ptW_0 (by dsimp only; omega)
      have p4 : ptW (x + r, y + k) (x + u) (y + v) = 0 := ptW_0 (by dsimp only; omega)
      have p5 : ptW (x + k, y + r) (x + u) (y + v) = 0 := ptW_0 (by dsimp only; omega)
      have p6 : ptW (x + (0 - k), y + r) (x + u) (y + v) = 0 := ptW_0 (by dsimp only; omega)
      have p7 : ptW (x + (0 - r), y + k) (x + u) (y + v) = 0 := ptW_0 (by dsimp only; omega)
      rw [w, e0, e1, e2, e3, e4, e5, e6, e7, p0, p1, p2, p3, p4, p5, p6, p7]; rfl
    · by_cases ca : u = r
      · skip
        have w := kz (by omega) 3 (by decide) (show r - u = 0 by omega)
        have e0 : eW (x + (0 - r), y + (0 - k)) (x + (0 - k), y + (0 - r)) (x + u) (y + v) = 0 := eW_out (by dsimp only; omega)
        have e1 : eW (x + (0 - k), y + (0 - r)) (x + k, y + (0 - r)) (x + u) (y + v) = 0 := eW_out (by dsimp only; omega)
        have e2 : eW (x + k, y + (0 - r)) (x + r, y + (0 - k)) (x + u) (y + v) = 0 := eW_out (by dsimp only; omega)
        have e3 : eW (x + r, y + (0 - k)) (x + r, y + k) (x + u) (y + v) = 1 := eW_one (z := r - u) (by omega) c3 (by omega) (by dsimp only; omega)
        have e4 : eW (x + r, y + k) (x + k, y + r) (x + u) (y + v) = 1 := eW_one (z := (r + k) - (u + v)) (by omega) c4 (by omega) (by dsimp only; omega)
        have e5 : eW (x + k, y + r) (x + (0 - k), y + r) (x + u) (y + v) = 0 := eW_out (by dsimp only; omega)
        have e6 : eW (x + (0 - k), y + r) (x + (0 - r), y + k) (x + u) (y + v) = 0 := eW_out (by dsimp only; omega)
        have e7 : eW (x + (0 - r), y + k) (x + (0 - r), y + (0 - k)) (x + u) (y + v) = 0 := eW_out (by dsimp only; omega)
        have p0 : ptW (x + (0 - r), y + (0 - k)) (x + u) (y + v) = 0 := ptW_0 (by dsimp only; omega)
        have p1 : ptW (x + (0 - k), y + (0 - r)) (x + u) (y + v) = 0 := ptW_0 (by dsimp only; omega)
        have p2 : ptW (x + k, y + (0 - r)) (x + u) (y + v) = 0 := ptW_0 (by dsimp only; omega)
        have p3 : ptW (x + r, y + (0 - k)) (x + u) (y + v) = 0 := ptW_0 (by dsimp only; omega)
        have p4 : ptW (x + r, y + k) (x + u) (y + v) = 1 := ptW_1 (by dsimp only; omega)
        have p5 : ptW (x + k, y + r) (x + u) (y + v) = 0 := ptW_0 (by dsimp only; omega)
        have p6 : ptW (x + (0 - k), y + r) (x + u) (y + v) = 0 := ptW_0 (by dsimp only; omega)
        have p7 : ptW (x + (0 - r), y + k) (x + u) (y + v) = 0 := ptW_0 (by dsimp only; omega)
        rw [w, e0, e1, e2, e3, e4, e5, e6, e7, p0, p1, p2, p3, p4, p5, p6, p7]; rfl
      · by_cases cb : u = k
        · skip
          have w := kz (by omega) 4 (by decide) (show (r + k) - (u + v) = 0 by omega)
          have e0 : eW (x + (0 - r), y + (0 - k)) (x + (0 - k), y + (0 - r)) (x + u) (y + v) = 0 := eW_out (by dsimp only; omega)
          have e1 : eW (x + (0 - k), y + (0 - r)) (x + k, y + (0 - r)) (x + u) (y + v) = 0 := eW_out (by dsimp only; omega)
          have e2 : eW (x + k, y + (0 - r)) (x + r, y + (0 - k)) (x + u) (y + v) = 0 := eW_out (by dsimp only; omega)
          have e3 : eW (x + r, y + (0 - k)) (x + r, y + k) (x + u) (y + v) = 0 := eW_out (by dsimp only; omega)
          have e4 : eW (x + r, y + k) (x + k, y + r) (x + u) (y + v) = 1 := eW_one (z := (r + k) - (u + v)) (by omega) c4 (by omega) (by dsimp only; omega)
          have e5 : eW (x + k, y + r) (x + (0 - k), y + r) (x + u) (y + v) = 1 := eW_one (z := r - v) (by omega) c5 (by omega) (by dsimp only; omega)
          have e6 : eW (x + (0 - k), y + r) (x + (0 - r), y + k) (x + u) (y + v) = 0 := eW_out (by dsimp only; omega)
          have e7 : eW (x + (0 - r), y + k) (x + (0 - r), y + (0 - k)) (x + u) (y + v) = 0 := eW_out (by dsimp only; omega)
          have p0 : ptW (x + (0 - r), y + (0 - k)) (x + u) (y + v) = 0 := ptW_0 (by dsimp only; omega)
          have p1 : ptW (x + (0 - k), y + (0 - r)) (x + u) (y + v) = 0 := ptW_0 (by dsimp only; omega)
          have p2 : ptW (x + k, y + (0 - r)) (x + u) (y + v) = 0 := ptW_0 (by dsimp only; omega)
          have p3 : ptW (x + r, y + (0 - k)) (x + u) (y + v) = 0 := ptW_0 (by dsimp only; omega)
          have p4 : ptW (x + r, y + k) (x + u) (y + v) = 0 := ptW_0 (by dsimp only; omega)
          have p5 : ptW (x + k, y + r) (x + u) (y + v) = 1 := ptW_1 (by dsimp only; omega)
          have p6 : ptW (x + (0 - k), y + r) (x + u) (y + v) = 0 := ptW_0 (by dsimp only; omega)
          have p7 : ptW (x + (0 - r), y + k) (x + u) (y + v) = 0 := ptW_0 (by dsimp only; omega)
          rw [w, e0, e1, e2, e3, e4, e5, e6, e7, p0, p1, p2, p3, p4, p5, p6, p7]; rfl
        · skip
          have w := kz (by omega) 4 (by decide) (show (r + k) - (u + v) = 0 by omega)
          have e0 : eW (x + (0 - r), y + (0 - k)) (x + (0 - k), y + (0 - r)) (x + u) (y + v) = 0 := eW_out (by dsimp only; omega)
          have e1 : eW (x + (0 - k), y + (0 - r)) (x + k, y + (0 - r)) (x + u) (y + v) = 0 := eW_out (by dsimp only; omega)
          have e2 : eW (x + k, y + (0 - r)) (x + r, y + (0 - k)) (x + u) (y + v) = 0 := eW_out (by dsimp only; omega)
          have e3 : eW (x + r, y + (0 - k)) (x + r, y + k) (x + u) (y + v) = 0 := eW_out (by dsimp only; omega)
          have e4 : eW (x + r, y + k) (x + k, y + r) (x + u) (y + v) = 1 := eW_one (z := (r + k) - (u + v)) (by omega) c4 (by omega) (by dsimp only; omega)
          have e5 : eW (x + k, y + r) (x + (0 - k), y + r) (x + u) (y + v) = 0 := eW_out (by dsimp only; omega)
          have e6 : eW (x + (0 - k), y + r) (x + (0 - r), y + k) (x + u) (y + v) = 0 := eW_out (by dsimp only; omega)
          have e7 : eW (x + (0 - r), y + k) (x + (0 - r), y + (0 - k)) (x + u) (y + v) = 0 := eW_out (by dsimp only; omega)
          have p0 : ptW (x + (0 - r), y + (0 - k)) (x + u) (y + v) = 0 := ptW_0 (by dsimp only; omega)
          have p1 : ptW (x + (0 - k), y + (0 - r)) (x + u) (y + v) = 0 := ptW_0 (by dsimp only; omega)
          have p2 : ptW (x + k, y + (0 - r)) (x + u) (y + v) = 0 := ptW_0 (by dsimp only; omega)
          have p3 : ptW (x + r, y + (0 - k)) (x + u) (y + v) = 0 := ptW_0 (by dsimp only; omega)
          have p4 : ptW (x + r, y + k) (x + u) (y + v) = 0 := ptW_0 (by dsimp only; omega)
          have p5 : ptW (x + k, y + r) (x + u) (y + v) = 0 := ptW_0 (by dsimp only; omega)
          have p6 : ptW (x + (0 - k), y + r) (x + u) (y + v) = 0 := ptW_0 (by dsimp only; omega)
          have p7 : ptW (x + (0 - r), y + k) (x + u) (y + v) = 0 := ptW_0 (by dsimp only; omega)
          rw [w, e0, e1, e2, e3, e4, e5, e6, e7, p0, p1, p2, p3, p4, p5, p6, p7]; rfl
    · skip
      have w := kp (by omega)
      have e0 : eW (x + (0 - r), y + (0 - k)) (x + (0 - k), y + (0 - r)) (x + u) (y + v) = 0 := eW_out (by dsimp only; omega)
      have e1 : eW (x + (0 - k), y + (0 - r)) (x + k, y + (0 - r)) (x + u) (y + v) = 0 := eW_out (by dsimp only; omega)
      have e2 : eW (x + k, y + (0 - r)) (x + r, y + (0 - k)) (x + u) (y + v) = 0 := eW_out (by dsimp only; omega)
      have e3 : eW (x + r, y + (0 - k)) (x + r, y + k) (x + u) (y + v) = 0 := eW_out (by dsimp only; omega)
      have e4 : eW (x + r, y + k) (x + k, y + r) (x + u) (y + v) = 0 := eW_pos (z := (r + k) - (u + v)) (by omega) c4 (by omega)
      have e5 : eW (x + k, y + r) (x + (0 - k), y + r) (x + u) (y + v) = 0 := eW_out (by dsimp only; omega)
      have e6 : eW (x + (0 - k), y + r) (x + (0 - r), y + k) (x + u) (y + v) = 0 := eW_out (by dsimp only; omega)
      have e7 : eW (x + (0 - r), y + k) (x + (0 - r), y + (0 - k)) (x + u) (y + v) = 0 := eW_out (by dsimp only; omega)
      have p0 : ptW (x + (0 - r), y + (0 - k)) (x + u) (y + v) = 0 := ptW_0 (by dsimp only; omega)
      have p1 : ptW (x + (0 - k), y + (0 - r)) (x + u) (y + v) = 0 := ptW_0 (by dsimp only; omega)
      have p2 : ptW (x + k, y + (0 - r)) (x + u) (y + v) = 0 := ptW_0 (by dsimp only; omega)
      have p3 : ptW (x + r, y + (0 - k)) (x + u) (y + v) = 0 := ptW_0 (by dsimp only; omega)
      have p4 : ptW (x + r, y + k) (x + u) (y + v) = 0 := ptW_0 (by dsimp only; omega)
      have p5 : ptW (x + k, y + r) (x + u) (y + v) = 0 := ptW_0 (by dsimp only; omega)
      have p6 : ptW (x + (0 - k), y + r) (x + u) (y + v) = 0 := ptW_0 (by dsimp only; omega)
      have p7 : ptW (x + (0 - r), y + k) (x + u) (y + v) = 0 := ptW_0 (by dsimp only; omega)
      rw [w, e0, e1, e2, e3, e4, e5, e6, e7, p0, p1, p2, p3, p4, p5, p6, p7]; rfl
  by_cases d6 : u ≤ -k ∧ k ≤ v
  · skip
    rcases Int.lt_trichotomy (u - v + (r + k)) 0 with l | l | l
    · skip
      have w := kn 6 (by decide) (show u - v + (r + k) < 0 by omega)
      have e0 : eW (x + (0 - r), y + (0 - k)) (x + (0 - k), y + (0 - r)) (x + u) (y + v) = 0 := eW_out (by dsimp only; omega)
      have e1 : eW (x + (0 - k), y + (0 - r)) (x + k, y + (0 - r)) (x + u) (y + v) = 0 := eW_out (by dsimp only; omega)
      have e2 : eW (x + k, y + (0 - r)) (x + r, y + (0 - k)) (x + u) (y + v) = 0 := eW_out (by dsimp only; omega)
      have e3 : eW (x + r, y + (0 - k)) (x + r, y + k) (x + u) (y + v) = 0 := eW_out (by dsimp only; omega)
      have e4 : eW (x + r, y + k) (x + k, y + r) (x + u) (y + v) = 0 := eW_out (by dsimp only; omega)
      have e5 : eW (x + k, y + r) (x + (0 - k), y + r) (x + u) (y + v) = 0 := eW_out (by dsimp only; omega)
      have e6 : eW (x + (0 - k), y + r) (x + (0 - r), y + k) (x + u) (y + v) = 2 := eW_two (z := u - v + (r + k)) (by omega) c6 (by omega) (by dsimp only; omega)
      have e7 : eW (x + (0 - r), y + k) (x + (0 - r), y + (0 - k)) (x + u) (y + v) = 0 := eW_out (by dsimp only; omega)
      have p0 : ptW (x + (0 - r), y + (0 - k)) (x + u) (y + v) = 0 := ptW_0 (by dsimp only; omega)
      have p1 : ptW (x + (0 - k), y + (0 - r)) (x + u) (y + v) = 0 := ptW_0 (by dsimp only; omega)
      have p2 : ptW (x + k, y + (0 - r)) (x + u) (y + v) = 0 := ptW_0 (by dsimp only; omega)
      have p3 : ptW (x + r, y + (0 - k)) (x + u) (y + v) = 0 := ptW_0 (by dsimp only; omega)
      have p4 : ptW (x + r, y + k) (x + u) (y + v) = 0 := ptW_0 (by dsimp only; omega)
      have p5 : ptW (x + k, y + r) (x + u) (y + v) = 0 := ptW_0 (by dsimp only; omega)
      have p6 : ptW (x + (0 - k), y + r) (x + u) (y + v) = 0 := ptW_0 (by dsimp only; omega)
      have p7 : ptW (x + (0 - r), y + k) (x + u) (y + v) = 0 := ptW_0 (by dsimp only; omega)
      rw [w, e0, e1, e2, e3, e4, e5, e6, e7, p0, p1, p2, p3, p4, p5, p6, p7]; rfl
    · by_cases ca : u = -r
      · skip
        have w := kz (by omega) 6 (by decide) (show u - v + (r + k) = 0 by omega)
        have e0 : eW (x + (0 - r), y + (0 - k)) (x + (0 - k), y + (0 - r)) (x + u) (y + v) = 0 := eW_out (by dsimp only; omega)
        have e1 : eW (x + (0 - k), y + (0 - r)) (x + k, y + (0 - r)) (x + u) (y + v) = 0 := eW_out (by dsimp only; omega)
        have e2 : eW (x + k, y + (0 - r)) (x + r, y + (0 - k)) (x + u) (y + v) = 0 := eW_out (by dsimp only; omega)
        have e3 : eW (x + r, y + (0 - k)) (x + r, y + k) (x + u) (y + v) = 0 := eW_out (by dsimp only; omega)
        have e4 : eW (x + r, y + k) (x + k, y + r) (x + u) (y + v) = 0 := eW_out (by dsimp only; omega)
        have e5 : eW (x + k, y + r) (x + (0 - k), y + r) (x + u) (y + v) = 0 := eW_out (by dsimp only; omega)
        have e6 : eW (x + (0 - k), y + r) (x + (0 - r), y + k) (x + u) (y + v) = 1 := eW_one (z := u - v + (r + k)) (by omega) c6 (by omega) (by dsimp only; omega)
        have e7 : eW (x + (0 - r), y + k) (x + (0 - r), y + (0 - k)) (x + u) (y + v) = 1 := eW_one (z := u + r) (by omega) c7 (by omega) (by dsimp only; omega)
        have p0 : ptW (x + (0 - r), y + (0 - k)) (x + u) (y + v) = 0 := ptW_0 (by dsimp only; omega)
        have p1 : ptW (x + (0 - k), y + (0 - r)) (x + u) (y + v) = 0 := ptW_0 (by dsimp only; omega)
        have p2 : ptW (x + k, y + (0 - r)) (x + u) (y + v) = 0 := ptW_0 (by dsimp only; omega)
        have p3 : ptW (x + r, y + (0 - k)) (x + u) (y + v) = 0 := ptW_0 (by dsimp only; omega)
        have p4 : ptW (x + r, y + k) (x + u) (y + v) = 0 := ptW_0 (by dsimp only; omega)
        have p5 : ptW (x + k, y + r) (x + u) (y + v) = 0 := ptW_0 (by dsimp only; omega)
        have p6 : ptW (x + (0 - k), y + r) (x + u) (y + v) = 0 := ptW_0 (by dsimp only; omega)
        have p7 : ptW (x + (0 - r), y + k) (x + u) (y + v) = 1 := ptW_1 (by dsimp only; omega)
        rw [w, e0, e1, e2, e3, e4, e5, e6, e7, p0, p1, p2, p3, p4, p5, p6, p7]; rfl
      · by_cases cb : u = -k
        · skip
          have w := kz (by omega) 5 (by decide) (show r - v = 0 by omega)
          have e0 : eW (x + (0 - r), y + (0 - k)) (x + (0 - k), y + (0 - r)) (x + u) (y + v) = 0 := eW_out (by dsimp only; omega)
          have e1 : eW (x + (0 - k), y + (0 - r)) (x + k, y + (0 - r)) (x + u) (y + v) = 0 := eW_out (by dsimp only; omega)
          have e2 : eW (x + k, y + (0 - r)) (x + r, y + (0 - k)) (x + u) (y + v) = 0 := eW_out (by dsimp only; omega)
          have e3 : eW (x + r, y + (0 - k)) (x + r, y + k) (x + u) (y + v) = 0 := eW_out (by dsimp only; omega)
          have e4 : eW (x + r, y + k) (x + k, y + r) (x + u) (y + v) = 0 := eW_out (by dsimp only; omega)
          have e5 : eW (x + k, y + r) (x + (0 - k), y + r) (x + u) (y + v) = 1 := eW_one (z := r - v) (by omega) c5 (by omega) (by dsimp only; omega)
          have e6 : eW (x + (0 - k), y + r) (x + (0 - r), y + k) (x + u) (y + v) = 1 := eW_one (z := u - v + (r + k)) (by omega) c6 (by omega) (by dsimp only; omega)
          have e7 : eW (x + (0 - r), y + k) (x + (0 - r), y + (0 - k)) (x + u) (y + v) = 0 := eW_out (by dsimp only; omega)
          have p0 : ptW (x + (0 - r), y + (0 - k)) (x + u) (y + v) = 0 := ptW_0 (by dsimp only; omega)
          have p1 : ptW (x + (0 - k), y + (0 - r)) (x + u) (y + v) = 0 := ptW_0 (by dsimp only; omega)
          have p2 : ptW (x + k, y + (0 - r)) (x + u) (y + v) = 0 := ptW_0 (by dsimp only; omega)
          have p3 : ptW (x + r, y + (0 - k)) (x + u) (y + v) = 0 := ptW_0 (by dsimp only; omega)
          have p4 : ptW (x + r, y + k) (x + u) (y + v) = 0 := ptW_0 (by dsimp only; omega)
          have p5 : ptW (x + k, y + r) (x + u) (y + v) = 0 := ptW_0 (by dsimp only; omega)
          have p6 : ptW (x + (0 - k), y + r) (x + u) (y + v) = 1 := ptW_1 (by dsimp only; omega)
          have p7 : ptW (x + (0 - r), y + k) (x + u) (y + v) = 0 := ptW_0 (by dsimp only; omega)
          rw [w, e0, e1, e2, e3, e4, e5, e6, e7, p0, p1, p2, p3, p4, p5, p6, p7]; rfl
        · skip
          have w := kz (by omega) 6 (by decide) (show u - v + (r + k) = 0 by omega)
          have e0 : eW (x + (0 - r), y + (0 - k)) (x + (0 - k), y + (0 - r)) (x + u) (y + v) = 0 := eW_out (by dsimp only; omega)
          have e1 : eW (x + (0 - k), y + (0 - r)) (x + k, y + (0 - r)) (x + u) (y + v) = 0 := eW_out (by dsimp only; omega)
          have e2 : eW (x + k, y + (0 - r)) (x + r, y + (0 - k)) (x + u) (y + v) = 0 := eW_out (by dsimp only; omega)
          have e3 : eW (x + r, y + (0 - k)) (x + r, y + k) (x + u) (y + v) = 0 := eW_out (by dsimp only; omega)
          have e4 : eW (x + r, y + k) (x + k, y + r) (x + u) (y + v) = 0 := eW_out (by dsimp only; omega)
          have e5 : eW (x + k, y + r) (x + (0 - k), y + r) (x + u) (y + v) = 0 := eW_out (by dsimp only; omega)
          have e6 : eW (x + (0 - k), y + r) (x + (0 - r), y + k) (x + u) (y + v) = 1 := eW_one (z := u - v + (r + k)) (by omega) c6 (by omega) (by dsimp only; omega)
          have e7 : eW (x + (0 - r), y + k) (x + (0 - r), y + (0 - k)) (x + u) (y + v) = 0 := eW_out (by dsimp only; omega)
          have p0 : ptW (x + (0 - r), y + (0 - k)) (x + u) (y + v) = 0 := ptW_0 (by dsimp only; omega)
          have p1 : ptW (x + (0 - k), y + (0 - r)) (x + u) (y + v) = 0 := ptW_0 (by dsimp only; omega)
          have p2 : ptW (x + k, y + (0 - r)) (x + u) (y + v) = 0 := ptW_0 (by dsimp only; omega)
          have p3 : ptW (x + r, y + (0 - k)) (x + u) (y + v) = 0 := ptW_0 (by dsimp only; omega)
          have p4 : ptW (x + r, y + k) (x + u) (y + v) = 0 := ptW_0 (by dsimp only; omega)
          have p5 : ptW (x + k, y + r) (x + u) (y + v) = 0 := ptW_0 (by dsimp only; omega)
          have p6 : ptW (x + (0 - k), y + r) (x + u) (y + v) = 0 := ptW_0 (by dsimp only; omega)
          have p7 : ptW (x + (0 - r), y + k) (x + u) (y + v) = 0 := ptW_0 (by dsimp only; omega)
          rw [w, e0, e1, e2, e3, e4, e5, e6, e7, p0, p1, p2, p3, p4, p5, p6, p7]; rfl
    · skip
      have w := kp (by omega)
      have e0 : eW (x + (0 - r), y + (0 - k)) (x + (0 - k), y + (0 - r)) (x + u) (y + v) = 0 := eW_out (by dsimp only; omega)
      have e1 : eW (x + (0 - k), y + (0 - r)) (x + k, y + (0 - r)) (x + u) (y + v) = 0 := eW_out (by dsimp only; omega)
      have e2 : eW (x + k, y + (0 - r)) (x + r, y + (0 - k)) (x + u) (y + v) = 0 := eW_out (by dsimp only; omega)
      have e3 : eW (x + r, y + (0 - k)) (x + r, y + k) (x + u) (y + v) = 0 := eW_out (by dsimp only; omega)
      have e4 : eW (x + r, y + k) (x + k, y + r) (x + u) (y + v) = 0 := eW_out (by dsimp only; omega)
      have e5 : eW (x + k, y + r) (x + (0 - k), y + r) (x + u) (y + v) = 0 := eW_out (by dsimp only; omega)
      have e6 : eW (x + (0 - k), y + r) (x + (0 - r), y + k) (x + u) (y + v) = 0 := eW_pos (z := u - v + (r + k)) (by omega) c6 (by omega)
      have e7 : eW (x + (0 - r), y + k) (x + (0 - r), y + (0 - k)) (x + u) (y + v) = 0 := eW_out (by dsimp only; omega)
      have p0 : ptW (x + (0 - r), y + (0 - k)) (x + u) (y + v) = 0 := ptW_0 (by dsimp only; omega)
      have p1 : ptW (x + (0 - k), y + (0 - r)) (x + u) (y + v) = 0 := ptW_0 (by dsimp only; omega)
      have p2 : ptW (x + k, y + (0 - r)) (x + u) (y + v) = 0 := ptW_0 (by dsimp only; omega)
      have p3 : ptW (x + r, y + (0 - k)) (x + u) (y + v) = 0 := ptW_0 (by dsimp only; omega)
      have p4 : ptW (x + r, y + k) (x + u) (y + v) = 0 := ptW_0 (by dsimp only; omega)
      have p5 : ptW (x + k, y + r) (x + u) (y + v) = 0 := ptW_0 (by dsimp only; omega)
      have p6 : ptW (x + (0 - k), y + r) (x + u) (y + v) = 0 := ptW_0 (by dsimp only; omega)
      have p7 : ptW (x + (0 - r), y + k) (x + u) (y + v) = 0 := ptW_0 (by dsimp only; omega)
      rw [w, e0, e1, e2, e3, e4, e5, e6, e7, p0, p1, p2, p3, p4, p5, p6, p7]; rfl
  by_cases s1 : v = -r
  · skip
    have w := kz (by omega) 1 (by decide) (show v + r = 0 by omega)
    have e0 : eW (x + (0 - r), y + (0 - k)) (x + (0 - k), y + (0 - r)) (x + u) (y + v) = 0 := eW_out (by dsimp only; omega)
    have e1 : eW (x + (0 - k), y + (0 - r)) (x + k, y + (0 - r)) (x + u) (y + v) = 1 := eW_one (z := v + r) (by omega) c1 (by omega) (by dsimp only; omega)
    have e2 : eW (x + k, y + (0 - r)) (x + r, y + (0 - k)) (x + u) (y + v) = 0 := eW_out (by dsimp only; omega)
    have e3 : eW (x + r, y + (0 - k)) (x + r, y + k) (x + u) (y + v) = 0 := eW_out (by dsimp only; omega)
    have e4 : eW (x + r, y + k) (x + k, y + r) (x + u) (y + v) = 0 := eW_out (by dsimp only; omega)
    have e5 : eW (x + k, y + r) (x + (0 - k), y + r) (x + u) (y + v) = 0 := eW_out (by dsimp only; omega)
    have e6 : eW (x + (0 - k), y + r) (x + (0 - r), y + k) (x + u) (y + v) = 0 := eW_out (by dsimp only; omega)
    have e7 : eW (x + (0 - r), y + k) (x + (0 - r), y + (0 - k)) (x + u) (y + v) = 0 := eW_out (by dsimp only; omega)
    have p0 : ptW (x + (0 - r), y + (0 - k)) (x + u) (y + v) = 0 := ptW_0 (by dsimp only; omega)
    have p1 : ptW (x + (0 - k), y + (0 - r)) (x + u) (y + v) = 0 := ptW_0 (by dsimp only; omega)
    have p2 : ptW (x + k, y + (0 - r)) (x + u) (y + v) = 0 := ptW_0 (by dsimp only; omega)
    have p3 : ptW (x + r, y + (0 - k)) (x + u) (y + v) = 0 := ptW_0 (by dsimp only; omega)
    have p4 : ptW (x + r, y + k) (x + u) (y + v) = 0 := ptW_0 (by dsimp only; omega)
    have p5 : ptW (x + k, y + r) (x + u) (y + v) = 0 := ptW_0 (by dsimp only; omega)
    have p6 : ptW (x + (0 - k), y + r) (x + u) (y + v) = 0 := ptW_0 (by dsimp only; omega)
    have p7 : ptW (x + (0 - r), y + k) (x + u) (y + v) = 0 := ptW_0 (by dsimp only; omega)
    rw [w, e0, e1, e2, e3, e4, e5, e6, e7, p0, p1, p2, p3, p4, p5, p6, p7]; rfl
  by_cases s3 : u = r
  · skip
    have w := kz (by omega) 3 (by decide) (show r - u = 0 by omega)
    have e0 : eW (x + (0 - r), y + (0 - k)) (x + (0 - k), y + (0 - r)) (x + u) (y + v) = 0 := eW_out (by dsimp only; omega)
    have e1 : eW (x + (0 - k), y + (0 - r)) (x + k, y + (0 - r)) (x + u) (y + v) = 0 := eW_out (by dsimp only; omega)
    have e2 : eW (x + k, y + (0 - r)) (x + r, y + (0 - k)) (x + u) (y + v) = 0 := eW_out (by dsimp only; omega)
    have e3 : eW (x + r, y + (0 - k)) (x + r, y + k) (x + u) (y + v) = 1 := eW_one (z := r - u) (by omega) c3 (by omega) (by dsimp only; omega)
    have e4 : eW (x + r, y + k) (x + k, y + r) (x + u) (y + v) = 0 := eW_out (by dsimp only; omega)
    have e5 : eW (x + k, y + r) (x + (0 - k), y + r) (x + u) (y + v) = 0 := eW_out (by dsimp only; omega)
    have e6 : eW (x + (0 - k), y + r) (x + (0 - r), y + k) (x + u) (y + v) = 0 := eW_out (by dsimp only; omega)
    have e7 : eW (x + (0 - r), y + k) (x + (0 - r), y + (0 - k)) (x + u) (y + v) = 0 := eW_out (by dsimp only; omega)
    have p0 : ptW (x + (0 - r), y + (0 - k)) (x + u) (y + v) = 0 := ptW_0 (by dsimp only; omega)
    have p1 : ptW (x + (0 - k), y + (0 - r)) (x + u) (y + v) = 0 := ptW_0 (by dsimp only; omega)
    have p2 : ptW (x + k, y + (0 - r)) (x + u) (y + v) = 0 := ptW_0 (by dsimp only; omega)
    have p3 : ptW (x + r, y + (0 - k)) (x + u) (y + v) = 0 := ptW_0 (by dsimp only; omega)
    have p4 : ptW (x + r, y + k) (x + u) (y + v) = 0 := ptW_0 (by dsimp only; omega)
    have p5 : ptW (x + k, y + r) (x + u) (y + v) = 0 := ptW_0 (by dsimp only; omega)
    have p6 : ptW (x + (0 - k), y + r) (x + u) (y + v) = 0 := ptW_0 (by dsimp only; omega)
    have p7 : ptW (x + (0 - r), y + k) (x + u) (y + v) = 0 := ptW_0 (by dsimp only; omega)
    rw [w, e0, e1, e2, e3, e4, e5, e6, e7, p0, p1, p2, p3, p4, p5, p6, p7]; rfl
  by_cases s5 : v = r
  · skip
    have w := kz (by omega) 5 (by decide) (show r - v = 0 by omega)
    have e0 : eW (x + (0 - r), y + (0 - k)) (x + (0 - k), y + (0 - r)) (x + u) (y + v) = 0 := eW_out (by dsimp only; omega)
    have e1 : eW (x + (0 - k), y + (0 - r)) (x + k, y + (0 - r)) (x + u) (y + v) = 0 := eW_out (by dsimp only; omega)
    have e2 : eW (x + k, y + (0 - r)) (x + r, y + (0 - k)) (x + u) (y + v) = 0 := eW_out (by dsimp only; omega)
    have e3 : eW (x + r, y + (0 - k)) (x + r, y + k) (x + u) (y + v) = 0 := eW_out (by dsimp only; omega)
    have e4 : eW (x + r, y + k) (x + k, y + r) (x + u) (y + v) = 0 := eW_out (by dsimp only; omega)
    have e5 : eW (x + k, y + r) (x + (0 - k), y + r) (x + u) (y + v) = 1 := eW_one (z := r - v) (by omega) c5 (by omega) (by dsimp only; omega)
    have e6 : eW (x + (0 - k), y + r) (x + (0 - r), y + k) (x + u) (y + v) = 0 := eW_out (by dsimp only; omega)
    have e7 : eW (x + (0 - r), y + k) (x + (0 - r), y + (0 - k)) (x + u) (y + v) = 0 := eW_out (by dsimp only; omega)
    have p0 : ptW (x + (0 - r), y + (0 - k)) (x + u) (y + v) = 0 := ptW_0 (by dsimp only; omega)
    have p1 : ptW (x + (0 - k), y + (0 - r)) (x + u) (y + v) = 0 := ptW_0 (by dsimp only; omega)
    have p2 : ptW (x + k, y + (0 - r)) (x + u) (y + v) = 0 := ptW_0 (by dsimp only; omega)
    have p3 : ptW (x + r, y + (0 - k)) (x + u) (y + v) = 0 := ptW_0 (by dsimp only; omega)
    have p4 : ptW (x + r, y + k) (x + u) (y + v) = 0 := ptW_0 (by dsimp only; omega)
    have p5 : ptW (x + k, y + r) (x + u) (y + v) = 0 := ptW_0 (by dsimp only; omega)
    have p6 : ptW (x + (0 - k), y + r) (x + u) (y + v) = 0 := ptW_0 (by dsimp only; omega)
    have p7 : ptW (x + (0 - r), y + k) (x + u) (y + v) = 0 := ptW_0 (by dsimp only; omega)
    rw [w, e0, e1, e2, e3, e4, e5, e6, e7, p0, p1, p2, p3, p4, p5, p6, p7]; rfl
  by_cases s7 : u = -r
  · skip
    have w := kz (by omega) 7 (by decide) (show u + r = 0 by omega)
    have e0 : eW (x + (0 - r), y + (0 - k)) (x + (0 - k), y + (0 - r)) (x + u) (y + v) = 0 := eW_out (by dsimp only; omega)
    have e1 : eW (x + (0 - k), y + (0 - r)) (x + k, y + (0 - r)) (x + u) (y + v) = 0 := eW_out (by dsimp only; omega)
    have e2 : eW (x + k, y + (0 - r)) (x + r, y + (0 - k)) (x + u) (y + v) = 0 := eW_out (by dsimp only; omega)
    have e3 : eW (x + r, y + (0 - k)) (x + r, y + k) (x + u) (y + v) = 0 := eW_out (by dsimp only; omega)
    have e4 : eW (x + r, y + k) (x + k, y + r) (x + u) (y + v) = 0 := eW_out (by dsimp only; omega)
    have e5 : eW (x + k, y + r) (x + (0 - k), y + r) (x + u) (y + v) = 0 := eW_out (by dsimp only; omega)
    have e6 : eW (x + (0 - k), y + r) (x + (0 - r), y + k) (x + u) (y + v) = 0 := eW_out (by dsimp only; omega)
    have e7 : eW (x + (0 - r), y + k) (x + (0 - r), y + (0 - k)) (x + u) (y + v) = 1 := eW_one (z := u + r) (by omega) c7 (by omega) (by dsimp only; omega)
    have p0 : ptW (x + (0 - r), y + (0 - k)) (x + u) (y + v) = 0 := ptW_0 (by dsimp only; omega)
    have p1 : ptW (x + (0 - k), y + (0 - r)) (x + u) (y + v) = 0 := ptW_0 (by dsimp only; omega)
    have p2 : ptW (x + k, y + (0 - r)) (x + u) (y + v) = 0 := ptW_0 (by dsimp only; omega)
    have p3 : ptW (x + r, y + (0 - k)) (x + u) (y + v) = 0 := ptW_0 (by dsimp only; omega)
    have p4 : ptW (x + r, y + k) (x + u) (y + v) = 0 := ptW_0 (by dsimp only; omega)
    have p5 : ptW (x + k, y + r) (x + u) (y + v) = 0 := ptW_0 (by dsimp only; omega)
    have p6 : ptW (x + (0 - k), y + r) (x + u) (y + v) = 0 := ptW_0 (by dsimp only; omega)
    have p7 : ptW (x + (0 - r), y + k) (x + u) (y + v) = 0 := ptW_0 (by dsimp only; omega)
    rw [w, e0, e1, e2, e3, e4, e5, e6, e7, p0, p1, p2, p3, p4, p5, p6, p7]; rfl
  have w := kp (by omega)
  have e0 : eW (x + (0 - r), y + (0 - k)) (x + (0 - k), y + (0 - r)) (x + u) (y + v) = 0 := eW_out (by dsimp only; omega)
  have e1 : eW (x + (0 - k), y + (0 - r)) (x + k, y + (0 - r)) (x + u) (y + v) = 0 := eW_out (by dsimp only; omega)
  have e2 : eW (x + k, y + (0 - r)) (x + r, y + (0 - k)) (x + u) (y + v) = 0 := eW_out (by dsimp only; omega)
  have e3 : eW (x + r, y + (0 - k)) (x + r, y + k) (x + u) (y + v) = 0 := eW_out (by dsimp only; omega)
  have e4 : eW (x + r, y + k) (x + k, y + r) (x + u) (y + v) = 0 := eW_out (by dsimp only; omega)
  have e5 : eW (x + k, y + r) (x + (0 - k), y + r) (x + u) (y + v) = 0 := eW_out (by dsimp only; omega)
  have e6 : eW (x + (0 - k), y + r) (x + (0 - r), y + k) (x + u) (y + v) = 0 := eW_out (by dsimp only; omega)
  have e7 : eW (x + (0 - r), y + k) (x + (0 - r), y + (0 - k)) (x + u) (y + v) = 0 := eW_out (by dsimp only; omega)
  have p0 : ptW (x + (0 - r), y + (0 - k)) (x + u) (y + v) = 0 := ptW_0 (by dsimp only; omega)
  have p1 : ptW (x + (0 - k), y + (0 - r)) (x + u) (y + v) = 0 := ptW_0 (by dsimp only; omega)
  have p2 : ptW (x + k, y + (0 - r)) (x + u) (y + v) = 0 := ptW_0 (by dsimp only; omega)
  have p3 : ptW (x + r, y + (0 - k)) (x + u) (y + v) = 0 := ptW_0 (by dsimp only; omega)
  have p4 : ptW (x + r, y + k) (x + u) (y + v) = 0 := ptW_0 (by dsimp only; omega)
  have p5 : ptW (x + k, y + r) (x + u) (y + v) = 0 := ptW_0 (by dsimp only; omega)
  have p6 : ptW (x + (0 - k), y + r) (x + u) (y + v) = 0 := ptW_0 (by dsimp only; omega)
  have p7 : ptW (x + (0 - r), y + k) (x + u) (y + v) = 0 := ptW_0 (by dsimp only; omega)
  rw [w, e0, e1, e2, e3, e4, e5, e6, e7, p0, p1, p2, p3, p4, p5, p6, p7]; rfl
end Go.Proofs.Ytomnkdlfmjdckaa.Am.Sp

set_option linter.unusedVariables false
set_option linter.unusedSimpArgs false
namespace Go.Proofs.Ytomnkdlfmjdckaa.Am.Sp
open Go
/-! Rectangles, squares, L's -/
def rcE (a b c d : Int) : List ((Int × Int) × (Int × Int)) := [((a, b), (c, b)), ((c, b), (c, d)), ((c, d), (a, d)), ((a, d), (a, b))]
def rcV (a b c d : Int) : List (Int × Int) := [(a, b), (c, b), (c, d), (a, d)]
def rcW (a b c d X Y : Int) : Int := if (a ≤ X ∧ X ≤ c) ∧ (b ≤ Y ∧ Y ≤ d) then (if (a < X ∧ X < c) ∧ (b < Y ∧ Y < d) then 2 else 1) else 0
theorem ax_h {a c b X Y : Int} (h : a < c) (hY : b ≤ Y) : eW (a, b) (c, b) X Y = if Y = b ∧ (a ≤ X ∧ X ≤ c) then 1 else 0 := by
  have e : crP (a, b) (c, b) (X, Y) = (c - a) * (Y - b) := by unfold crP crs; grind
  split
  · exact eW_one (by omega) e (by omega) (by dsimp only; omega)
  · exact eW_out (by dsimp only; omega)
theorem ax_v {c b d X Y : Int} (h : b < d) (hX : X ≤ c) : eW (c, b) (c, d) X Y = if X = c ∧ (b ≤ Y ∧ Y ≤ d) then 1 else 0 := by
  have e : crP (c, b) (c, d) (X, Y) = (d - b) * (c - X) := by unfold crP crs; grind
  split
  · exact eW_one (by omega) e (by omega) (by dsimp only; omega)
  · exact eW_out (by dsimp only; omega)
theorem ax_h' {a c d X Y : Int} (h : a < c) (hY : Y ≤ d) : eW (c, d) (a, d) X Y = if Y = d ∧ (a ≤ X ∧ X ≤ c) then 1 else 0 := by
  have e : crP (c, d) (a, d) (X, Y) = (c - a) * (d - Y) := by unfold crP crs; grind
  split
  · exact eW_one (by omega) e (by omega) (by dsimp only; omega)
  · exact eW_out (by dsimp only; omega)
theorem ax_v' {a b d X Y : Int} (h : b < d) (hX : a ≤ X) : eW (a, d) (a, b) X Y = if X = a ∧ (b ≤ Y ∧ Y ≤ d) then 1 else 0 := by
  have e : crP (a, d) (a, b) (X, Y) = (d - b) * (X - a) := by unfold crP crs; grind
  split
  · exact eW_one (by omega) e (by omega) (by dsimp only; omega)
  · exact eW_out (by dsimp only; omega)
theorem rc_w {a b c d X Y : Int} (h1 : a < c) (h2 : b < d) (hX : a ≤ X ∧ X ≤ c) (hY : b ≤ Y ∧ Y ≤ d) : rcW a b c d X Y = 2 - eS (rcE a b c d) X Y + pS (rcV a b c d) X Y := by
  show _ = 2 - (eW (a, b) (c, b) X Y + (eW (c, b) (c, d) X Y + (eW (c, d) (a, d) X Y + (eW (a, d) (a, b) X Y + 0)))) + (ptW (a, b) X Y + (ptW (c, b) X Y + (ptW (c, d) X Y + (ptW (a, d) X Y + 0))))
  rw [ax_h h1 hY.1, ax_v h2 hX.2, ax_h' h1 hY.2, ax_v' h2 hX.1]
  unfold rcW
  rw [if_pos ⟨hX, hY⟩]
  by_cases q1 : X = a
  · rw [if_neg (by omega), if_neg (by omega : ¬ (X = c ∧ b ≤ Y ∧ Y ≤ d)), if_pos (by omega : X = a ∧ b ≤ Y ∧ Y ≤ d), ptW_0 (P := (c, b)) (by dsimp only; omega), ptW_0 (P := (c, d)) (by dsimp only; omega)]
    by_cases q2 : Y = b
    · rw [if_pos (by omega), if_neg (by omega), ptW_1 (by dsimp only; omega), ptW_0 (by dsimp only; omega)]; rfl
    · by_cases q3 : Y = d
      · rw [if_neg (by omega), if_pos (by omega), ptW_0 (by dsimp only; omega), ptW_1 (by dsimp only; omega)]; rfl
      · rw [if_neg (by omega), if_neg (by omega), ptW_0 (by dsimp only; omega), ptW_0 (by dsimp only; omega)]; rfl
  · rw [if_neg (by omega : ¬ (X = a ∧ b ≤ Y ∧ Y ≤ d)), ptW_0 (P := (a, b)) (by dsimp only; omega), ptW_0 (P := (a, d)) (by dsimp only; omega)]
    by_cases q2 : X = c
    · rw [if_neg (by omega), if_pos (by omega : X = c ∧ b ≤ Y ∧ Y ≤ d)]
      by_cases q2 : Y = b
      · rw [if_pos (by omega), if_neg (by omega), ptW_1 (by dsimp only; omega), ptW_0 (by dsimp only; omega)]; rfl
      · by_cases q3 : Y = d
        · rw [if_neg (by omega), if_pos (by omega), ptW_0 (by dsimp only; omega), ptW_1 (by dsimp only; omega)]; rfl
        · rw [if_neg (by omega), if_neg (by omega), ptW_0 (by dsimp only; omega), ptW_0 (by dsimp only; omega)]; rfl
    · rw [if_neg (by omega : ¬ (X = c ∧ b ≤ Y ∧ Y ≤ d)), ptW_0 (by dsimp only; omega), ptW_0 (by dsimp only; omega)]
      by_cases q2 : Y = b
      · rw [if_neg (by omega), if_pos (by omega), if_neg (by omega)]; rfl
      · by_cases q3 : Y = d
        · rw [if_neg (by omega), if_neg (by omega), if_pos (by omega)]; rfl
        · rw [if_pos (by omega), if_neg (by omega), if_neg (by omega)]; rfl
/-- a rectangle in a box -/
theorem S2_rc {a b c d lx ly : Int} {m n : Nat} (h1 : a < c) (h2 : b < d) (h3 : lx ≤ a ∧ c < lx + m) (h4 : ly ≤ b ∧ d < ly + n) : S2 (fun i k => rcW a b c d (lx + i) (ly + k)) m n = 2 * ((c - a) * (d - b)) + 2 := by
  obtain ⟨i0, hi0⟩ : ∃ i : Nat, (i : Int) = a - lx := ⟨(a - lx).toNat, by omega⟩
  obtain ⟨k0, hk0⟩ : ∃ i : Nat, (i : Int) = b - ly := ⟨(b - ly).toNat, by omega⟩
  obtain ⟨M, hM⟩ : ∃ i : Nat, (i : Int) = c - a + 1 := ⟨(c - a + 1).toNat, by omega⟩
  obtain ⟨N, hN⟩ : ∃ i : Nat, (i : Int) = d - b + 1 := ⟨(d - b + 1).toNat, by omega⟩
  rw [S2_part (a := i0) (b := M) (c := k0) (d := N) (by omega) (by omega) (fun i hi k hk hr => by unfold rcW; exact if_neg (by omega))]
  have q := S2_all (lx := a) (ly := b) (m := M) (n := N) (E := rcE a b c d) (V := rcV a b c d) (f := fun i k => rcW a b c d (lx + ((i0 + i : Nat) : Int)) (ly + ((k0 + k : Nat) : Int))) ?_ ?_ ?_
  · rw [q]
    show 2 * (M : Int) * N - ((max a c - min a c + 1) * (max b b - min b b + 1) + ((max c c - min c c + 1) * (max b d - min b d + 1) + ((max c a - min c a + 1) * (max d d - min d d + 1) + ((max a a - min a a + 1) * (max d b - min d b + 1) + 0)))) + 4 = _
    rw [show max a c = c by omega, show min a c = a by omega, show max b d = d by omega, show min b d = b by omega, show max c a = c by omega, show min c a = a by omega, show max d b = d by omega, show min d b = b by omega, show max b b - min b b + 1 = 1 by omega, show max c c - min c c + 1 = 1 by omega, show max d d - min d d + 1 = 1 by omega, show max a a - min a a + 1 = 1 by omega, hM, hN]
    grind
  · intro e he
    unfold rcE at he
    simp only [List.mem_cons, List.not_mem_nil, or_false] at he
    unfold inB
    rcases he with rfl | rfl | rfl | rfl <;> dsimp only <;> omega
  · intro e he
    unfold rcV at he
    simp only [List.mem_cons, List.not_mem_nil, or_false] at he
    unfold inB
    rcases he with rfl | rfl | rfl | rfl <;> dsimp only <;> omega
  · intro i hi k hk
    rw [show lx + ((i0 + i : Nat) : Int) = a + i by omega, show ly + ((k0 + k : Nat) : Int) = b + k by omega]
    exact rc_w h1 h2 (by omega) (by omega)
/-! what is on an edge, what is left of it -/
theorem onb_h {a c b X Y : Int} (h : a ≠ c) : onb a b c b X Y = true ↔ Y = b ∧ (min a c ≤ X ∧ X ≤ max a c) := by
  rw [onb_iff]
  have e1 : crs a b c b X Y = (c - a) * (Y - b) := by unfold crs; grind
  have e2 : dot X Y a b c b = (a - X) * (c - X) + (b - Y) * (b - Y) := by unfold dot; rfl
  rw [e1, e2]
  constructor
  · rintro ⟨h1, h2⟩
    have hb : Y = b := by rcases Int.mul_eq_zero.1 h1 with q | q <;> omega
    subst hb
    refine ⟨rfl, ?_⟩
    rw [show (Y - Y) * (Y - Y) = 0 by rw [Int.sub_self]; rfl] at h2
    have k1 : ¬ (X < a ∧ X < c) := fun ⟨q1, q2⟩ => by have := Int.mul_pos (show 0 < a - X by omega) (show 0 < c - X by omega); omega
    have k2 : ¬ (a < X ∧ c < X) := fun ⟨q1, q2⟩ => (by have := Int.mul_pos (show 0 < X - a by omega) (show 0 < X - c by omega); rw [show (X - a) * (X - c) = (a - X) * (c - X) by grind] at this; omega)
    omega
  · rintro ⟨rfl, h2⟩
    refine ⟨by rw [Int.sub_self, Int.mul_zero], ?_⟩
    rw [show (Y - Y) * (Y - Y) = 0 by rw [Int.sub_self]; rfl]
    rcases Int.lt_trichotomy a X with q | q | q
    · have := mulnnH (show 0 ≤ X - a by omega) (show 0 ≤ c - X by omega)
      have e : (X - a) * (c - X) = -((a - X) * (c - X)) := by grind
      omega
    · subst q; rw [Int.sub_self, Int.zero_mul]; omega
    · have := mulnnH (show 0 ≤ a - X by omega) (show 0 ≤ X - c by omega)
      have e : (a - X) * (X - c) = -((a - X) * (c - X)) := by grind
      omega
theorem onb_v {a b d X Y : Int} (h : b ≠ d) : onb a b a d X Y = true ↔ X = a ∧ (min b d ≤ Y ∧ Y ≤ max b d) := by
  rw [onb_iff]
  have e1 : crs a b a d X Y = (b - d) * (X - a) := by unfold crs; grind
  have e2 : dot X Y a b a d = (b - Y) * (d - Y) + (a - X) * (a - X) := by unfold dot; grind
  rw [e1, e2]
  constructor
  · rintro ⟨h1, h2⟩
    have hb : X = a := by rcases Int.mul_eq_zero.1 h1 with q | q <;> omega
    subst hb
    refine ⟨rfl, ?_⟩
    rw [show (X - X) * (X - X) = 0 by rw [Int.sub_self]; rfl] at h2
    have k1 : ¬ (Y < b ∧ Y < d) := fun ⟨q1, q2⟩ => by have := Int.mul_pos (show 0 < b - Y by omega) (show 0 < d - Y by omega); omega
    have k2 : ¬ (b < Y ∧ d < Y) := fun ⟨q1, q2⟩ => (by have := Int.mul_pos (show 0 < Y - b by omega) (show 0 < Y - d by omega); rw [show (Y - b) * (Y - d) = (b - Y) * (d - Y) by grind] at this; omega)
    omega
  · rintro ⟨rfl, h2⟩
    refine ⟨by rw [Int.sub_self, Int.mul_zero], ?_⟩
    rw [show (X - X) * (X - X) = 0 by rw [Int.sub_self]; rfl]
    rcases Int.lt_trichotomy b Y with q | q | q
    · have := mulnnH (show 0 ≤ Y - b by omega) (show 0 ≤ d - Y by omega)
      have e : (Y - b) * (d - Y) = -((b - Y) * (d - Y)) := by grind
      omega
    · subst q; rw [Int.sub_self, Int.zero_mul]; omega
    · have := mulnnH (show 0 ≤ b - Y by omega) (show 0 ≤ Y - d by omega)
      have e : (b - Y) * (Y - d) = -((b - Y) * (d - Y)) := by grind
      omega
theorem cR_h (p : Int × Int) (a c b : Int) : cR p (a, b) (c, b) = false := by
  rw [Bool.eq_false_iff]
  intro h
  rw [cR_iff] at h
  dsimp only at h
  omega
theorem cR_v (X Y a b d : Int) : cR (X, Y) (a, b) (a, d) = true ↔ (min b d < Y ∧ Y ≤ max b d) ∧ X < a := by
  rw [cR_iff]
  have e : crP (X, Y) (a, b) (a, d) = (d - b) * (a - X) := by unfold crP crs; grind
  rw [e]
  dsimp only
  constructor
  · rintro (⟨h1, h2, h3⟩ | ⟨h1, h2, h3⟩)
    · refine ⟨by omega, ?_⟩
      apply Classical.byContradiction; intro hn
      have := mulnnH (show 0 ≤ b - d by omega) (show 0 ≤ X - a by omega)
      have e : (b - d) * (X - a) = (d - b) * (a - X) := by grind
      omega
    · refine ⟨by omega, ?_⟩
      apply Classical.byContradiction; intro hn
      have := mulnnH (show 0 ≤ d - b by omega) (show 0 ≤ X - a by omega)
      have e : (d - b) * (X - a) = -((d - b) * (a - X)) := by grind
      omega
  · rintro ⟨h1, h2⟩
    by_cases q : d < b
    · left
      refine ⟨q, by omega, ?_⟩
      have := Int.mul_pos (show 0 < b - d by omega) (show 0 < a - X by omega)
      have e : (b - d) * (a - X) = -((d - b) * (a - X)) := by grind
      omega
    · right
      exact ⟨by omega, by omega, Int.mul_pos (by omega) (by omega)⟩
theorem wv {ps : List (Int × Int)} (h0 : 0 < ps.length) (hf : Few 40 ps) (x y : Int) : wT ps x y = if onany (x, y) (ps.getD 0 (0, 0)) (ps.drop 1 ++ [ps.getD 0 (0, 0)]) = true then 1 else if xorp (cR (x, y)) (ps.getD 0 (0, 0)) (ps.drop 1 ++ [ps.getD 0 (0, 0)]) = true then 2 else 0 := by
  unfold wT
  rw [hasv_lim h0 (map_limp (by decide) hf)]
  unfold hasv
  split
  · rfl
  · split <;> rfl
theorem wv_if {ps : List (Int × Int)} {x y : Int} {D I : Prop} [Decidable D] [Decidable I] (h0 : 0 < ps.length) (hf : Few 40 ps) (ho : onany (x, y) (ps.getD 0 (0, 0)) (ps.drop 1 ++ [ps.getD 0 (0, 0)]) = true ↔ D) (hx : xorp (cR (x, y)) (ps.getD 0 (0, 0)) (ps.drop 1 ++ [ps.getD 0 (0, 0)]) = true ↔ I) : wT ps x y = if D then 1 else if I then 2 else 0 := by
  rw [wv h0 hf]; simp only [ho, hx]
theorem sq_w {x y r X Y : Int} (hr : 1 ≤ r) (hf : Few 40 [(x + (0 - r), y + (0 - r)), (x + r, y + (0 - r)), (x + r, y + r), (x + (0 - r), y + r)]) (hX : x - r ≤ X ∧ X ≤ x + r) (hY : y - r ≤ Y ∧ Y ≤ y + r) : wT [(x + (0 - r), y + (0 - r)), (x + r, y + (0 - r)), (x + r, y + r), (x + (0 - r), y + r)] X Y = rcW (x - r) (y - r) (x + r) (y + r) X Y := by
  rw [wv_if (D := ¬ ((x - r < X ∧ X < x + r) ∧ (y - r < Y ∧ Y < y + r))) (I := (y - r < Y ∧ Y ≤ y + r) ∧ X < x + r) (by simp) hf]
  · unfold rcW
    rw [if_pos (by omega : (x - r ≤ X ∧ X ≤ x + r) ∧ (y - r ≤ Y ∧ Y ≤ y + r))]
    by_cases q : (x - r < X ∧ X < x + r) ∧ (y - r < Y ∧ Y < y + r)
    · rw [if_pos q, if_neg (by omega), if_pos (by omega)]
    · rw [if_neg q, if_pos q]
  · show (onb (x + (0 - r)) (y + (0 - r)) (x + r) (y + (0 - r)) X Y || (onb (x + r) (y + (0 - r)) (x + r) (y + r) X Y || (onb (x + r) (y + r) (x + (0 - r)) (y + r) X Y || (onb (x + (0 - r)) (y + r) (x + (0 - r)) (y + (0 - r)) X Y || false)))) = true ↔ _
    rw [Bool.or_eq_true, Bool.or_eq_true, Bool.or_eq_true, Bool.or_eq_true, onb_h (by omega), onb_v (by omega), onb_h (by omega), onb_v (by omega)]
    simp only [Bool.false_eq_true, or_false]
    omega
  · show (cR (X, Y) (x + (0 - r), y + (0 - r)) (x + r, y + (0 - r)) != (cR (X, Y) (x + r, y + (0 - r)) (x + r, y + r) != (cR (X, Y) (x + r, y + r) (x + (0 - r), y + r) != (cR (X, Y) (x + (0 - r), y + r) (x + (0 - r), y + (0 - r)) != false)))) = true ↔ _
    have c2 := cR_v X Y (x + (0 - r)) (y + r) (y + (0 - r))
    have c2' : cR (X, Y) (x + (0 - r), y + r) (x + (0 - r), y + (0 - r)) = false := by rw [Bool.eq_false_iff]; intro q; rw [c2] at q; omega
    rw [cR_h, cR_h, c2', Bool.bne_false, Bool.bne_false, Bool.bne_false, Bool.false_bne, cR_v]
    omega
theorem ell_w {x y r a b X Y : Int} (hr : 1 ≤ r) (ha : 0 ≤ a ∧ a < r) (hb : 0 ≤ b ∧ b < r) (hf : Few 40 [(x + (0 - r), y + (0 - r)), (x + r, y + (0 - r)), (x + r, y + (0 - b)), (x + (0 - a), y + (0 - b)), (x + (0 - a), y + r), (x + (0 - r), y + r)]) (hX : x - r ≤ X ∧ X ≤ x + r) (hY : y - r ≤ Y ∧ Y ≤ y + r) :
    wT [(x + (0 - r), y + (0 - r)), (x + r, y + (0 - r)), (x + r, y + (0 - b)), (x + (0 - a), y + (0 - b)), (x + (0 - a), y + r), (x + (0 - r), y + r)] X Y = (rcW (x - r) (y - r) (x + r) (y - b) X Y + rcW (x - r) (y - b) (x - a) (y + r) X Y) + -(ptW (x - r, y - b) X Y + ptW (x - a, y - b) X Y) := by
  rw [wv_if (D := (Y = y - r) ∨ (X = x + r ∧ Y ≤ y - b) ∨ (Y = y - b ∧ x - a ≤ X) ∨ (X = x - a ∧ y - b ≤ Y) ∨ (Y = y + r ∧ X ≤ x - a) ∨ X = x - r) (I := ¬ (((y - r < Y ∧ Y ≤ y - b) ∧ X < x + r) ↔ ((y - b < Y ∧ Y ≤ y + r) ∧ X < x - a))) (by simp) hf]
  · have e1 : rcW (x - r) (y - r) (x + r) (y - b) X Y = if Y ≤ y - b then (if (x - r < X ∧ X < x + r) ∧ (y - r < Y ∧ Y < y - b) then 2 else 1) else 0 := by
      unfold rcW
      by_cases q : Y ≤ y - b
      · rw [if_pos q, if_pos (by omega)]
      · rw [if_neg q, if_neg (by omega)]
    have e2 : rcW (x - r) (y - b) (x - a) (y + r) X Y = if y - b ≤ Y ∧ X ≤ x - a then (if (x - r < X ∧ X < x - a) ∧ (y - b < Y ∧ Y < y + r) then 2 else 1) else 0 := by
      unfold rcW
      by_cases q : y - b ≤ Y ∧ X ≤ x - a
      · rw [if_pos q, if_pos (by omega)]
      · rw [if_neg q, if_neg (by omega)]
    rw [e1, e2]
    unfold ptW
    dsimp only
    rcases Int.lt_trichotomy Y (y - b) with v | v | v
    · rw [if_pos (by omega : Y ≤ y - b), if_neg (by omega : ¬ (y - b ≤ Y ∧ X ≤ x - a)), if_neg (by omega : ¬ (X = x - r ∧ Y = y - b)), if_neg (by omega : ¬ (X = x - a ∧ Y = y - b))]
      by_cases q : (x - r < X ∧ X < x + r) ∧ (y - r < Y ∧ Y < y - b)
      · rw [if_pos q, if_neg (by omega), if_pos (by omega)]; rfl
      · rw [if_neg q, if_pos (by omega)]; rfl
    · rw [if_pos (by omega : Y ≤ y - b), if_neg (by omega : ¬ ((x - r < X ∧ X < x + r) ∧ (y - r < Y ∧ Y < y - b)))]
      by_cases u1 : X = x - r
      · rw [if_pos (by omega : y - b ≤ Y ∧ X ≤ x - a), if_neg (by omega : ¬ ((x - r < X ∧ X < x - a) ∧ (y - b < Y ∧ Y < y + r))), if_pos (by omega : X = x - r ∧ Y = y - b), if_neg (by omega : ¬ (X = x - a ∧ Y = y - b)), if_pos (by omega)]; rfl
      · rw [if_neg (by omega : ¬ (X = x - r ∧ Y = y - b))]
        rcases Int.lt_trichotomy X (x - a) with u | u | u
        · rw [if_pos (by omega : y - b ≤ Y ∧ X ≤ x - a), if_neg (by omega : ¬ ((x - r < X ∧ X < x - a) ∧ (y - b < Y ∧ Y < y + r))), if_neg (by omega : ¬ (X = x - a ∧ Y = y - b)), if_neg (by omega), if_pos (by omega)]; rfl
        · rw [if_pos (by omega : y - b ≤ Y ∧ X ≤ x - a), if_neg (by omega : ¬ ((x - r < X ∧ X < x - a) ∧ (y - b < Y ∧ Y < y + r))), if_pos (by omega : X = x - a ∧ Y = y - b), if_pos (by omega)]; rfl
        · rw [if_neg (by omega : ¬ (y - b ≤ Y ∧ X ≤ x - a)), if_neg (by omega : ¬ (X = x - a ∧ Y = y - b)), if_pos (by omega)]; rfl
    · rw [if_neg (by omega : ¬ Y ≤ y - b), if_neg (by omega : ¬ (X = x - r ∧ Y = y - b)), if_neg (by omega : ¬ (X = x - a ∧ Y = y - b))]
      by_cases u : X ≤ x - a
      · rw [if_pos (by omega : y - b ≤ Y ∧ X ≤ x - a)]
        by_cases q : (x - r < X ∧ X < x - a) ∧ (y - b < Y ∧ Y < y + r)
        · rw [if_pos q, if_neg (by omega), if_pos (by omega)]; rfl
        · rw [if_neg q, if_pos (by omega)]; rfl
      · rw [if_neg (by omega : ¬ (y - b ≤ Y ∧ X ≤ x - a)), if_neg (by omega), if_neg (by omega)]; rfl
  · show (onb (x + (0 - r)) (y + (0 - r)) (x + r) (y + (0 - r)) X Y || (onb (x + r) (y + (0 - r)) (x + r) (y + (0 - b)) X Y || (onb (x + r) (y + (0 - b)) (x + (0 - a)) (y + (0 - b)) X Y || (onb (x + (0 - a)) (y + (0 - b)) (x + (0 - a)) (y + r) X Y || (onb (x + (0 - a)) (y + r) (x + (0 - r)) (y + r) X Y || (onb (x + (0 - r)) (y + r) (x + (0 - r)) (y + (0 - r)) X Y || false)))))) = true ↔ _
    rw [Bool.or_eq_true, Bool.or_eq_true, Bool.or_eq_true, Bool.or_eq_true, Bool.or_eq_true, Bool.or_eq_true, onb_h (by omega), onb_v (by omega), onb_h (by omega), onb_v (by omega), onb_h (by omega), onb_v (by omega)]
    simp only [Bool.false_eq_true, or_false]
    rw [show min (x + (0 - r)) (x + r) = x - r by omega, show max (x + (0 - r)) (x + r) = x + r by omega, show min (y + (0 - r)) (y + (0 - b)) = y - r by omega, show max (y + (0 - r)) (y + (0 - b)) = y - b by omega, show min (x + r) (x + (0 - a)) = x - a by omega, show max (x + r) (x + (0 - a)) = x + r by omega, show min (y + (0 - b)) (y + r) = y - b by omega, show max (y + (0 - b)) (y + r) = y + r by omega, show min (x + (0 - a)) (x + (0 - r)) = x - r by omega, show max (x + (0 - a)) (x + (0 - r)) = x - a by omega, show min (y + r) (y + (0 - r)) = y - r by omega, show max (y + r) (y + (0 - r)) = y + r by omega]
    constructor
    · rintro (h | h | h | h | h | h) <;> omega
    · rintro (h | h | h | h | h | h)
      · exact .inl (by omega)
      · exact .inr (.inl (by omega))
      · exact .inr (.inr (.inl (by omega)))
      · exact .inr (.inr (.inr (.inl (by omega))))
      · exact .inr (.inr (.inr (.inr (.inl (by omega)))))
      · exact .inr (.inr (.inr (.inr (.inr (by omega)))))
  · show (cR (X, Y) (x + (0 - r), y + (0 - r)) (x + r, y + (0 - r)) != (cR (X, Y) (x + r, y + (0 - r)) (x + r, y + (0 - b)) != (cR (X, Y) (x + r, y + (0 - b)) (x + (0 - a), y + (0 - b)) != (cR (X, Y) (x + (0 - a), y + (0 - b)) (x + (0 - a), y + r) != (cR (X, Y) (x + (0 - a), y + r) (x + (0 - r), y + r) != (cR (X, Y) (x + (0 - r), y + r) (x + (0 - r), y + (0 - r)) != false)))))) = true ↔ _
    have c2 := cR_v X Y (x + (0 - r)) (y + r) (y + (0 - r))
    have c2' : cR (X, Y) (x + (0 - r), y + r) (x + (0 - r), y + (0 - r)) = false := by rw [Bool.eq_false_iff]; intro q; rw [c2] at q; omega
    have c1 := cR_v X Y (x + r) (y + (0 - r)) (y + (0 - b))
    have c3 := cR_v X Y (x + (0 - a)) (y + (0 - b)) (y + r)
    rw [cR_h, cR_h, cR_h, c2', Bool.bne_false, Bool.bne_false, Bool.false_bne, Bool.false_bne]
    rw [show min (y + (0 - r)) (y + (0 - b)) = y - r by omega, show max (y + (0 - r)) (y + (0 - b)) = y - b by omega, show x + r = x + r from rfl] at c1
    rw [show min (y + (0 - b)) (y + r) = y - b by omega, show max (y + (0 - b)) (y + r) = y + r by omega, show x + (0 - a) = x - a by omega] at c3
    rw [show x + (0 - a) = x - a by omega]
    rw [← c1, ← c3]
    cases cR (X, Y) (x + r, y + (0 - r)) (x + r, y + (0 - b)) <;> cases cR (X, Y) (x - a, y + (0 - b)) (x - a, y + r) <;> simp
end Go.Proofs.Ytomnkdlfmjdckaa.Am.Sp

set_option linter.unusedVariables false
set_option linter.unusedSimpArgs false
namespace Go.Proofs.Ytomnkdlfmjdckaa.Am.Sp
open Go
/-! Arrows -/
theorem base_hull {a c R m h : Int} (hm : 0 < m ∧ m < R) (hh : 1 ≤ h) : hullF [(a, c), (a + R, c), (a + m, c + h)] = [(a, c), (a + R, c), (a + m, c + h)] := by
  have hT : 0 < R * h := Int.mul_pos (by omega) (by omega)
  have hlx : ∀ p ∈ [(a, c), (a + R, c), (a + m, c + h)], (p = (a, c) ∨ lxP (a, c) p) ∧ (p = (a + R, c) ∨ lxP p (a + R, c)) := fun p hp => by
    simp only [List.mem_cons, List.not_mem_nil, or_false] at hp
    rcases hp with rfl | rfl | rfl <;> rw [Prod.ext_iff, Prod.ext_iff] <;> unfold lxP <;> dsimp only <;> omega
  have c1 : crP (a, c) (a + R, c) (a + m, c + h) = R * h := by unfold crP crs; grind
  have c2 : crP (a + R, c) (a + m, c + h) (a, c) = R * h := by unfold crP crs; grind
  have c3 : crP (a + m, c + h) (a, c) (a + R, c) = R * h := by unfold crP crs; grind
  have e01 : ∀ p ∈ [(a, c), (a + R, c), (a + m, c + h)], 0 ≤ crP (a, c) (a + R, c) p := fun p hp => by
    simp only [List.mem_cons, List.not_mem_nil, or_false] at hp
    rcases hp with rfl | rfl | rfl
    · rw [crP_aba]; exact Int.le_refl _
    · rw [crP_self]; exact Int.le_refl _
    · rw [c1]; exact Int.le_of_lt hT
  have e12 : ∀ p ∈ [(a, c), (a + R, c), (a + m, c + h)], 0 ≤ crP (a + R, c) (a + m, c + h) p := fun p hp => by
    simp only [List.mem_cons, List.not_mem_nil, or_false] at hp
    rcases hp with rfl | rfl | rfl
    · rw [c2]; exact Int.le_of_lt hT
    · rw [crP_aba]; exact Int.le_refl _
    · rw [crP_self]; exact Int.le_refl _
  have e20 : ∀ p ∈ [(a, c), (a + R, c), (a + m, c + h)], 0 ≤ crP (a + m, c + h) (a, c) p := fun p hp => by
    simp only [List.mem_cons, List.not_mem_nil, or_false] at hp
    rcases hp with rfl | rfl | rfl
    · rw [crP_self]; exact Int.le_refl _
    · rw [c3]; exact Int.le_of_lt hT
    · rw [crP_aba]; exact Int.le_refl _
  have tU0 : 0 < crP (a + R, c) (a + m, c + h) (a, c) := by rw [c2]; exact hT
  refine hull_ex (L := [(a + R, c), (a, c)]) (U := [(a, c), (a + m, c + h), (a + R, c)]) ⟨low_of (z := (a, c)) ?_ ?_ ?_ rfl (fun p hp => (hlx p hp).1) (fun p hp => (hlx p hp).2) ?_, up_of (z := (a + R, c)) ?_ ?_ ?_ rfl (fun p hp => (hlx p hp).2) (fun p hp => (hlx p hp).1) ?_⟩ (by simp) rfl
  · simp only [Ds, and_true]; unfold lxP; dsimp only; omega
  · trivial
  · exact ⟨e01, trivial⟩
  · intro p hp; simp only [List.mem_cons, List.not_mem_nil, or_false] at hp ⊢; rcases hp with rfl | rfl <;> simp
  · simp only [List.map, Ds, lxP_neg, and_true]; unfold lxP; dsimp only; omega
  · simp only [List.map, Tr, crP_neg, and_true]; exact tU0
  · exact ⟨neg_all e20, neg_all e12, trivial⟩
  · intro p hp; simp only [List.mem_cons, List.not_mem_nil, or_false] at hp ⊢; rcases hp with rfl | rfl | rfl <;> simp
theorem cR_comm (p a b : Int × Int) : cR p a b = cR p b a := by
  rw [Bool.eq_iff_iff, cR_iff, cR_iff]
  have e : crP p b a = -crP p a b := by unfold crP crs; grind
  rw [e]
  by_cases h : a.2 = b.2
  · omega
  · omega
/-- the signs of a triangle's edges, and its count -/
theorem conv3_w {A B C : Int × Int} (hh : hullF [A, B, C] = [A, B, C]) (hf : Few 40 [A, B, C]) (X Y : Int) :
    ((crP A B (X, Y) < 0 ∨ crP B C (X, Y) < 0 ∨ crP C A (X, Y) < 0) → wT [A, B, C] X Y = 0) ∧ ((0 ≤ crP A B (X, Y) ∧ 0 ≤ crP B C (X, Y) ∧ 0 ≤ crP C A (X, Y)) → (crP A B (X, Y) = 0 ∨ crP B C (X, Y) = 0 ∨ crP C A (X, Y) = 0) → wT [A, B, C] X Y = 1) ∧ ((0 < crP A B (X, Y) ∧ 0 < crP B C (X, Y) ∧ 0 < crP C A (X, Y)) → wT [A, B, C] X Y = 2) := by
  obtain ⟨k1, k2, k3⟩ := conv3 hh hf (X, Y)
  unfold wT
  exact ⟨fun h => by rw [k1 h]; rfl, fun h g => by rw [k2 h g]; rfl, fun h => by rw [k3 h]; rfl⟩
theorem arr_w {a c R m h H X Y : Int} (hm : 0 < m ∧ m < R) (h1 : 1 ≤ h) (hH : h < H) (hX : a ≤ X ∧ X ≤ a + R) (hY : c ≤ Y ∧ Y ≤ c + H) (fA : Few 40 [(a, c), (a + m, c + h), (a + R, c), (a + m, c + H)]) (fT : Few 40 [(a, c), (a + R, c), (a + m, c + H)]) (fN : Few 40 [(a, c), (a + R, c), (a + m, c + h)]) :
    wT [(a, c), (a + m, c + h), (a + R, c), (a + m, c + H)] X Y = (wT [(a, c), (a + R, c), (a + m, c + H)] X Y + -wT [(a, c), (a + R, c), (a + m, c + h)] X Y) + (ptW (a, c) X Y + ptW (a + R, c) X Y) := by
  obtain ⟨tk1, tk2, tk3⟩ := conv3_w (base_hull (c := c) hm (show 1 ≤ H by omega)) fT X Y
  obtain ⟨nk1, nk2, nk3⟩ := conv3_w (base_hull (c := c) hm h1) fN X Y
  have wA : wT [(a, c), (a + m, c + h), (a + R, c), (a + m, c + H)] X Y = if (onb a c (a + m) (c + h) X Y || (onb (a + m) (c + h) (a + R) c X Y || (onb (a + R) c (a + m) (c + H) X Y || (onb (a + m) (c + H) a c X Y || false)))) = true then 1 else if (cR (X, Y) (a, c) (a + m, c + h) != (cR (X, Y) (a + m, c + h) (a + R, c) != (cR (X, Y) (a + R, c) (a + m, c + H) != (cR (X, Y) (a + m, c + H) (a, c) != false)))) = true then 2 else 0 := wv (by simp) fA X Y
  have wTT : wT [(a, c), (a + R, c), (a + m, c + H)] X Y = if (onb a c (a + R) c X Y || (onb (a + R) c (a + m) (c + H) X Y || (onb (a + m) (c + H) a c X Y || false))) = true then 1 else if (cR (X, Y) (a, c) (a + R, c) != (cR (X, Y) (a + R, c) (a + m, c + H) != (cR (X, Y) (a + m, c + H) (a, c) != false))) = true then 2 else 0 := wv (by simp) fT X Y
  have wN : wT [(a, c), (a + R, c), (a + m, c + h)] X Y = if (onb a c (a + R) c X Y || (onb (a + R) c (a + m) (c + h) X Y || (onb (a + m) (c + h) a c X Y || false))) = true then 1 else if (cR (X, Y) (a, c) (a + R, c) != (cR (X, Y) (a + R, c) (a + m, c + h) != (cR (X, Y) (a + m, c + h) (a, c) != false))) = true then 2 else 0 := wv (by simp) fN X Y
  rw [onb_comm a c (a + m), onb_comm (a + m) (c + h) (a + R), cR_comm _ (a, c) (a + m, c + h), cR_comm _ (a + m, c + h) (a + R, c)] at wA
  rw [cR_h] at wTT wN
  obtain ⟨u, rfl⟩ : ∃ u, X = a + u := ⟨X - a, by omega⟩
  obtain ⟨v, rfl⟩ : ∃ v, Y = c + v := ⟨Y - c, by omega⟩
  have e1 : crP (a, c) (a + R, c) (a + u, c + v) = R * v := by unfold crP crs; grind
  have e2 : crP (a + R, c) (a + m, c + H) (a + u, c + v) = H * (R - u) - (R - m) * v := by unfold crP crs; grind
  have e3 : crP (a + m, c + H) (a, c) (a + u, c + v) = H * u - m * v := by unfold crP crs; grind
  have g2 : crP (a + R, c) (a + m, c + h) (a + u, c + v) = h * (R - u) - (R - m) * v := by unfold crP crs; grind
  have g3 : crP (a + m, c + h) (a, c) (a + u, c + v) = h * u - m * v := by unfold crP crs; grind
  have o2 := onb_iff (a + R) c (a + m) (c + H) (a + u) (c + v)
  have o3 := onb_iff (a + m) (c + H) a c (a + u) (c + v)
  have q2 := onb_iff (a + R) c (a + m) (c + h) (a + u) (c + v)
  have q3 := onb_iff (a + m) (c + h) a c (a + u) (c + v)
  have ob := onb_h (a := a) (c := a + R) (b := c) (X := a + u) (Y := c + v) (by omega)
  have E2 : crs (a + R) c (a + m) (c + H) (a + u) (c + v) = H * (R - u) - (R - m) * v := e2
  have E3 : crs (a + m) (c + H) a c (a + u) (c + v) = H * u - m * v := e3
  have G2 : crs (a + R) c (a + m) (c + h) (a + u) (c + v) = h * (R - u) - (R - m) * v := g2
  have G3 : crs (a + m) (c + h) a c (a + u) (c + v) = h * u - m * v := g3
  rw [E2] at o2
  rw [E3] at o3
  rw [G2] at q2
  rw [G3] at q3
  rw [e1, e2, e3] at tk1 tk2 tk3
  rw [e1, g2, g3] at nk1 nk2 nk3
  have hu : 0 ≤ u ∧ u ≤ R := by omega
  have d2 : H * (R - u) - (R - m) * v = (h * (R - u) - (R - m) * v) + (H - h) * (R - u) := by grind
  have d3 : H * u - m * v = (h * u - m * v) + (H - h) * u := by grind
  have f2 := mulnnH (show 0 ≤ H - h by omega) (show 0 ≤ R - u by omega)
  have f3 := mulnnH (show 0 ≤ H - h by omega) hu.1
  by_cases v0 : v = 0
  · subst v0
    have z2 : cR (a + u, c + 0) (a + R, c) (a + m, c + H) = false := by rw [Bool.eq_false_iff]; intro k; rw [cR_iff] at k; dsimp only at k; omega
    have z3 : cR (a + u, c + 0) (a + m, c + H) (a, c) = false := by rw [Bool.eq_false_iff]; intro k; rw [cR_iff] at k; dsimp only at k; omega
    have y2 : cR (a + u, c + 0) (a + R, c) (a + m, c + h) = false := by rw [Bool.eq_false_iff]; intro k; rw [cR_iff] at k; dsimp only at k; omega
    have y3 : cR (a + u, c + 0) (a + m, c + h) (a, c) = false := by rw [Bool.eq_false_iff]; intro k; rw [cR_iff] at k; dsimp only at k; omega
    have b1 : onb a c (a + R) c (a + u) (c + 0) = true := ob.2 (by omega)
    rw [b1] at wTT wN
    rw [z2, z3, y2, y3] at wA
    rw [Int.mul_zero, Int.sub_zero] at o2 o3 q2 q3
    have wTT' : wT [(a, c), (a + R, c), (a + m, c + H)] (a + u) (c + 0) = 1 := wTT
    have wN' : wT [(a, c), (a + R, c), (a + m, c + h)] (a + u) (c + 0) = 1 := wN
    rw [wTT', wN']
    by_cases u0 : u = 0
    · subst u0
      have r3 : onb (a + m) (c + H) a c (a + 0) (c + 0) = true := o3.2 ⟨Int.mul_zero _, by unfold dot; rw [show a - (a + 0) = 0 by omega, show c - (c + 0) = 0 by omega]; simp⟩
      rw [r3] at wA
      rw [wA, ptW_1 (by dsimp only; omega), ptW_0 (by dsimp only; omega)]
      simp
    · by_cases u1 : u = R
      · subst u1
        have r2 : onb (a + u) c (a + m) (c + H) (a + u) (c + 0) = true := o2.2 ⟨by rw [Int.sub_self, Int.mul_zero], by unfold dot; rw [show a + u - (a + u) = 0 by omega, show c - (c + 0) = 0 by omega]; simp⟩
        rw [r2] at wA
        rw [wA, ptW_0 (by dsimp only; omega), ptW_1 (by dsimp only; omega)]
        simp
      · have n2 := Int.mul_pos (show 0 < H by omega) (show 0 < R - u by omega)
        have n3 := Int.mul_pos (show 0 < H by omega) (show 0 < u by omega)
        have n4 := Int.mul_pos (show 0 < h by omega) (show 0 < R - u by omega)
        have n5 := Int.mul_pos (show 0 < h by omega) (show 0 < u by omega)
        have s1 : onb (a + R) c (a + m) (c + H) (a + u) (c + 0) = false := Bool.eq_false_iff.2 (fun k => by have := (o2.1 k).1; omega)
        have s2 : onb (a + m) (c + H) a c (a + u) (c + 0) = false := Bool.eq_false_iff.2 (fun k => by have := (o3.1 k).1; omega)
        have s3 : onb (a + R) c (a + m) (c + h) (a + u) (c + 0) = false := Bool.eq_false_iff.2 (fun k => by have := (q2.1 k).1; omega)
        have s4 : onb (a + m) (c + h) a c (a + u) (c + 0) = false := Bool.eq_false_iff.2 (fun k => by have := (q3.1 k).1; omega)
        rw [s1, s2, s3, s4] at wA
        rw [wA, ptW_0 (by dsimp only; omega), ptW_0 (by dsimp only; omega)]
        simp
  · have v1 : 0 < v := by omega
    have t1 := Int.mul_pos (show 0 < R by omega) v1
    have w2 := Int.mul_pos (show 0 < R - m by omega) v1
    have w3 := Int.mul_pos hm.1 v1
    have b0 : onb a c (a + R) c (a + u) (c + v) = false := Bool.eq_false_iff.2 (fun k => by have := (ob.1 k).1; omega)
    rw [b0] at wTT wN
    rw [ptW_0 (by dsimp only; omega), ptW_0 (by dsimp only; omega)]
    -- what is on the notch is in the triangle
    have up2 : 0 ≤ h * (R - u) - (R - m) * v → 0 < R - u := fun k => by
      apply Classical.byContradiction; intro hn
      have : R - u = 0 := by omega
      rw [this, Int.mul_zero] at k; omega
    have up3 : 0 ≤ h * u - m * v → 0 < u := fun k => by
      apply Classical.byContradiction; intro hn
      have : u = 0 := by omega
      rw [this, Int.mul_zero] at k; omega
    have in2 : onb (a + R) c (a + m) (c + h) (a + u) (c + v) = true → 0 < H * (R - u) - (R - m) * v ∧ 0 < H * u - m * v := fun k => by
      have k1 := q2.1 k
      have p2 := Int.mul_pos (show 0 < H - h by omega) (up2 (by omega))
      refine ⟨by omega, ?_⟩
      have k2 := k1.2
      unfold dot at k2
      have k3 : (a + R - (a + u)) * (a + m - (a + u)) + (c - (c + v)) * (c + h - (c + v)) = (R - u) * (m - u) - v * (h - v) := by grind
      rw [k3] at k2
      -- beyond the apex both products would be positive
      have k4 : ¬ h < v := fun hv => by
        have a1 := Int.mul_pos v1 (show 0 < v - h by omega)
        have a2 : v * (v - h) = -(v * (h - v)) := by grind
        have a3 := up2 (by omega)
        have a4 : ¬ 0 ≤ m - u := fun q => by have := mulnnH (show 0 ≤ R - u by omega) q; omega
        have a5 := Int.mul_lt_mul_of_pos_left (show R - u < R - m by omega) (show 0 < h by omega)
        have a6 := Int.mul_lt_mul_of_pos_left hv (show 0 < R - m by omega)
        have a7 : h * (R - m) = (R - m) * h := Int.mul_comm ..
        omega
      have k5 : m ≤ u := by
        apply Classical.byContradiction; intro hn
        have a5 := Int.mul_lt_mul_of_pos_left (show R - m < R - u by omega) (show 0 < h by omega)
        have a6 := Int.mul_le_mul_of_nonneg_left (show v ≤ h by omega) (show 0 ≤ R - m by omega)
        have a7 : h * (R - m) = (R - m) * h := Int.mul_comm ..
        omega
      have a1 := Int.mul_le_mul_of_nonneg_left k5 (show 0 ≤ H by omega)
      have a2 := Int.mul_le_mul_of_nonneg_left (show v ≤ h by omega) (show 0 ≤ m by omega)
      have a3 := Int.mul_lt_mul_of_pos_left hH hm.1
      have a4 : H * m = m * H := Int.mul_comm ..
      omega
    have in3 : onb (a + m) (c + h) a c (a + u) (c + v) = true → 0 < H * (R - u) - (R - m) * v ∧ 0 < H * u - m * v := fun k => by
      have k1 := q3.1 k
      have p3 := Int.mul_pos (show 0 < H - h by omega) (up3 (by omega))
      refine ⟨?_, by omega⟩
      have k2 := k1.2
      unfold dot at k2
      have k3 : (a + m - (a + u)) * (a - (a + u)) + (c + h - (c + v)) * (c - (c + v)) = -(u * (m - u)) - v * (h - v) := by grind
      rw [k3] at k2
      have u1 := up3 (by omega)
      have k4 : ¬ h < v := fun hv => by
        have a1 := Int.mul_pos v1 (show 0 < v - h by omega)
        have a2 : v * (v - h) = -(v * (h - v)) := by grind
        have a4 : ¬ m - u ≤ 0 := fun q => by
          have := mulnnH (show 0 ≤ u by omega) (show 0 ≤ u - m by omega)
          have e : u * (u - m) = -(u * (m - u)) := by grind
          omega
        have a5 := Int.mul_lt_mul_of_pos_left (show u < m by omega) (show 0 < h by omega)
        have a6 := Int.mul_lt_mul_of_pos_left hv hm.1
        have a7 : h * m = m * h := Int.mul_comm ..
        omega
      have k5 : u ≤ m := by
        apply Classical.byContradiction; intro hn
        have a5 := Int.mul_lt_mul_of_pos_left (show m < u by omega) (show 0 < h by omega)
        have a6 := Int.mul_le_mul_of_nonneg_left (show v ≤ h by omega) (show 0 ≤ m by omega)
        have a7 : h * m = m * h := Int.mul_comm ..
        omega
      have a1 := Int.mul_le_mul_of_nonneg_left (show R - m ≤ R - u by omega) (show 0 ≤ H by omega)
      have a2 := Int.mul_le_mul_of_nonneg_left (show v ≤ h by omega) (show 0 ≤ R - m by omega)
      have a3 := Int.mul_lt_mul_of_pos_left hH (show 0 < R - m by omega)
      have a4 : H * (R - m) = (R - m) * H := Int.mul_comm ..
      omega
    by_cases cm : (onb (a + R) c (a + m) (c + h) (a + u) (c + v) || (onb (a + m) (c + h) a c (a + u) (c + v) || false)) = true
    · have i := (Bool.or_eq_true .. ▸ cm : _ ∨ _).elim in2 (fun k => (Bool.or_eq_true .. ▸ k : _ ∨ _).elim in3 (fun k => by cases k))
      rw [tk3 ⟨t1, i.1, i.2⟩, wN, wA]
      rw [if_pos, if_pos]; · rfl
      · rw [Bool.false_or]; exact cm
      · rw [Bool.or_false] at cm; rw [← Bool.or_assoc, Bool.or_comm (onb (a + m) (c + h) a c (a + u) (c + v)), cm]; rfl
    · rw [Bool.not_eq_true, Bool.or_eq_false_iff, Bool.or_eq_false_iff] at cm
      by_cases co : (onb (a + R) c (a + m) (c + H) (a + u) (c + v) || (onb (a + m) (c + H) a c (a + u) (c + v) || false)) = true
      · have i : h * (R - u) - (R - m) * v < 0 ∨ h * u - m * v < 0 := by
          rw [Bool.or_eq_true, Bool.or_false] at co
          rcases co with k | k
          · have k1 := (o2.1 k).1
            left
            apply Classical.byContradiction; intro hn
            have := Int.mul_pos (show 0 < H - h by omega) (up2 (by omega))
            omega
          · have k1 := (o3.1 k).1
            right
            apply Classical.byContradiction; intro hn
            have := Int.mul_pos (show 0 < H - h by omega) (up3 (by omega))
            omega
        rw [nk1 (i.elim (fun k => .inr (.inl k)) (fun k => .inr (.inr k))), wTT, wA, cm.1, cm.2.1, Bool.false_or, Bool.false_or, if_pos co, if_pos co]; rfl
      · rw [Bool.not_eq_true] at co
        rw [cm.1, cm.2.1, Bool.false_or, Bool.false_or, co, if_neg (by decide)] at wA
        rw [Bool.false_or, co, if_neg (by decide), Bool.false_bne] at wTT
        rw [cm.1, cm.2.1, Bool.false_or, if_neg (by decide), Bool.false_bne, Bool.bne_false] at wN
        cases xN : (cR (a + u, c + v) (a + R, c) (a + m, c + h) != cR (a + u, c + v) (a + m, c + h) (a, c))
        · rw [xN] at wN
          rw [wA, wTT, wN]
          have : cR (a + u, c + v) (a + R, c) (a + m, c + h) = cR (a + u, c + v) (a + m, c + h) (a, c) := by simpa using xN
          rw [this]
          cases cR (a + u, c + v) (a + m, c + h) (a, c) <;> simp
        · rw [xN] at wN
          have p : 0 < h * (R - u) - (R - m) * v ∧ 0 < h * u - m * v := by
            have wN2 : wT [(a, c), (a + R, c), (a + m, c + h)] (a + u) (c + v) = 2 := wN
            apply Classical.byContradiction; intro hn
            by_cases c1 : h * (R - u) - (R - m) * v < 0 ∨ h * u - m * v < 0
            · have := nk1 (c1.elim (fun k => .inr (.inl k)) (fun k => .inr (.inr k))); omega
            · have := nk2 (by omega) (by omega); omega
          have wT2 := tk3 ⟨t1, by omega, by omega⟩
          rw [wT2] at wTT
          have xT : (cR (a + u, c + v) (a + R, c) (a + m, c + H) != (cR (a + u, c + v) (a + m, c + H) (a, c) != false)) = true := by
            apply Classical.byContradiction; intro hn
            rw [if_neg hn] at wTT; cases wTT
          rw [xT] at wA
          rw [wT2, wN, wA]
          have : cR (a + u, c + v) (a + R, c) (a + m, c + h) = !cR (a + u, c + v) (a + m, c + h) (a, c) := by
            revert xN
            cases cR (a + u, c + v) (a + R, c) (a + m, c + h) <;> cases cR (a + u, c + v) (a + m, c + h) (a, c) <;> simp
          rw [this]
          cases cR (a + u, c + v) (a + m, c + h) (a, c) <;> simp
end Go.Proofs.Ytomnkdlfmjdckaa.Am.Sp

set_option linter.unusedVariables false
set_option linter.unusedSimpArgs false
namespace Go.Proofs.Ytomnkdlfmjdckaa.Am.Sp
open Go
/-! Pick's theorem for the rings that are drawn -/
theorem pick_sq {x y r : Int} {M : Nat} (hr : 1 ≤ r) (hM : (M : Int) = 2 * r + 1) (hf : Few 40 [(x + (0 - r), y + (0 - r)), (x + r, y + (0 - r)), (x + r, y + r), (x + (0 - r), y + r)]) : S2 (fun i k => wT [(x + (0 - r), y + (0 - r)), (x + r, y + (0 - r)), (x + r, y + r), (x + (0 - r), y + r)] (x - r + i) (y - r + k)) M M = areaN [(x + (0 - r), y + (0 - r)), (x + r, y + (0 - r)), (x + r, y + r), (x + (0 - r), y + r)] + 2 := by
  rw [S2_congr (g := fun i k => rcW (x - r) (y - r) (x + r) (y + r) (x - r + i) (y - r + k)) (fun i hi k hk => sq_w hr hf (by omega) (by omega)), S2_rc (by omega) (by omega) (by omega) (by omega)]
  unfold areaN
  simp only [List.length_cons, List.length_nil, sumN, trE, trp_few hf, Nat.reduceAdd, Nat.reduceMod, List.getD_cons_zero, List.getD_cons_succ]
  grind
theorem pick_ell {x y r a b : Int} {M : Nat} (hr : 1 ≤ r) (hM : (M : Int) = 2 * r + 1) (ha : 0 ≤ a ∧ a < r) (hb : 0 ≤ b ∧ b < r) (hf : Few 40 [(x + (0 - r), y + (0 - r)), (x + r, y + (0 - r)), (x + r, y + (0 - b)), (x + (0 - a), y + (0 - b)), (x + (0 - a), y + r), (x + (0 - r), y + r)]) : S2 (fun i k => wT [(x + (0 - r), y + (0 - r)), (x + r, y + (0 - r)), (x + r, y + (0 - b)), (x + (0 - a), y + (0 - b)), (x + (0 - a), y + r), (x + (0 - r), y + r)] (x - r + i) (y - r + k)) M M = areaN [(x + (0 - r), y + (0 - r)), (x + r, y + (0 - r)), (x + r, y + (0 - b)), (x + (0 - a), y + (0 - b)), (x + (0 - a), y + r), (x + (0 - r), y + r)] + 2 := by
  rw [S2_congr (fun i hi k hk => ell_w hr ha hb hf (X := x - r + i) (Y := y - r + k) (by omega) (by omega)), S2_plus, S2_plus, S2_neg, S2_plus, S2_rc (by omega) (by omega) (by omega) (by omega), S2_rc (by omega) (by omega) (by omega) (by omega), S2_pt (by dsimp only; omega) (by dsimp only; omega), S2_pt (by dsimp only; omega) (by dsimp only; omega)]
  unfold areaN
  simp only [List.length_cons, List.length_nil, sumN, trE, trp_few hf, Nat.reduceAdd, Nat.reduceMod, List.getD_cons_zero, List.getD_cons_succ]
  grind
theorem pick_oct {x y r k : Int} {M : Nat} (hr : 2 ≤ r) (hM : (M : Int) = 2 * r + 1) (hk : 1 ≤ k ∧ k < r) (hf : Few 40 [(x + (0 - r), y + (0 - k)), (x + (0 - k), y + (0 - r)), (x + k, y + (0 - r)), (x + r, y + (0 - k)), (x + r, y + k), (x + k, y + r), (x + (0 - k), y + r), (x + (0 - r), y + k)]) : S2 (fun i j => wT [(x + (0 - r), y + (0 - k)), (x + (0 - k), y + (0 - r)), (x + k, y + (0 - r)), (x + r, y + (0 - k)), (x + r, y + k), (x + k, y + r), (x + (0 - k), y + r), (x + (0 - r), y + k)] (x - r + i) (y - r + j)) M M = areaN [(x + (0 - r), y + (0 - k)), (x + (0 - k), y + (0 - r)), (x + k, y + (0 - r)), (x + r, y + (0 - k)), (x + r, y + k), (x + k, y + r), (x + (0 - k), y + r), (x + (0 - r), y + k)] + 2 := by
  have hw := fun (i j : Nat) (hi : i < M) (hj : j < M) => oct_w hr hk hf (u := (i : Int) - r) (v := (j : Int) - r) (by omega) (by omega)
  rw [S2_all (lx := x - r) (ly := y - r) ?_ ?_ (fun i hi j hj => by have := hw i j hi hj; rw [show x + ((i : Int) - r) = x - r + i by omega, show y + ((j : Int) - r) = y - r + j by omega] at this; exact this)]
  · simp only [List.map, sumL, eB, List.length_cons, List.length_nil]
    rw [show max (x + (0 - r)) (x + (0 - k)) = x - k by omega, show min (x + (0 - r)) (x + (0 - k)) = x - r by omega, show max (y + (0 - k)) (y + (0 - r)) = y - k by omega, show min (y + (0 - k)) (y + (0 - r)) = y - r by omega,
      show max (x + (0 - k)) (x + k) = x + k by omega, show min (x + (0 - k)) (x + k) = x - k by omega, show max (y + (0 - r)) (y + (0 - r)) = y - r by omega, show min (y + (0 - r)) (y + (0 - r)) = y - r by omega,
      show max (x + k) (x + r) = x + r by omega, show min (x + k) (x + r) = x + k by omega, show max (y + (0 - r)) (y + (0 - k)) = y - k by omega, show min (y + (0 - r)) (y + (0 - k)) = y - r by omega,
      show max (x + r) (x + r) = x + r by omega, show min (x + r) (x + r) = x + r by omega, show max (y + (0 - k)) (y + k) = y + k by omega, show min (y + (0 - k)) (y + k) = y - k by omega,
      show max (x + r) (x + k) = x + r by omega, show min (x + r) (x + k) = x + k by omega, show max (y + k) (y + r) = y + r by omega, show min (y + k) (y + r) = y + k by omega,
      show max (x + k) (x + (0 - k)) = x + k by omega, show min (x + k) (x + (0 - k)) = x - k by omega, show max (y + r) (y + r) = y + r by omega, show min (y + r) (y + r) = y + r by omega,
      show max (x + (0 - k)) (x + (0 - r)) = x - k by omega, show min (x + (0 - k)) (x + (0 - r)) = x - r by omega, show max (y + r) (y + k) = y + r by omega, show min (y + r) (y + k) = y + k by omega,
      show max (x + (0 - r)) (x + (0 - r)) = x - r by omega, show min (x + (0 - r)) (x + (0 - r)) = x - r by omega, show max (y + k) (y + (0 - k)) = y + k by omega, show min (y + k) (y + (0 - k)) = y - k by omega, hM]
    unfold areaN
    simp only [List.length_cons, List.length_nil, sumN, trE, trp_few hf, Nat.reduceAdd, Nat.reduceMod, List.getD_cons_zero, List.getD_cons_succ]
    grind
  · intro e he
    simp only [List.mem_cons, List.not_mem_nil, or_false] at he
    unfold inB
    rcases he with rfl | rfl | rfl | rfl | rfl | rfl | rfl | rfl <;> dsimp only <;> omega
  · intro e he
    simp only [List.mem_cons, List.not_mem_nil, or_false] at he
    unfold inB
    rcases he with rfl | rfl | rfl | rfl | rfl | rfl | rfl | rfl <;> dsimp only <;> omega
theorem pick_tri {x y r u v : Int} {M : Nat} (hr : 1 ≤ r) (hM : (M : Int) = 2 * r + 1) (hu : 0 ≤ u ∧ u < 2 * r) (hv : 0 ≤ v ∧ v < 2 * r) (hf : Few 40 [(x + (0 - r), y + (0 - r)), (x + r, y + (u - r)), (x + (v - r), y + r)]) : S2 (fun i j => wT [(x + (0 - r), y + (0 - r)), (x + r, y + (u - r)), (x + (v - r), y + r)] (x - r + i) (y - r + j)) M M = areaN [(x + (0 - r), y + (0 - r)), (x + r, y + (u - r)), (x + (v - r), y + r)] + 2 := by
  have hh := tri_hull (x := x) (y := y) hr hu hv
  obtain ⟨a, rfl⟩ : ∃ a, x = a + r := ⟨x - r, by omega⟩
  obtain ⟨c, rfl⟩ : ∃ c, y = c + r := ⟨y - r, by omega⟩
  rw [show a + r + (0 - r) = a by omega, show c + r + (0 - r) = c by omega, show a + r + r = a + 2 * r by omega, show c + r + (u - r) = c + u by omega, show a + r + (v - r) = a + v by omega, show c + r + r = c + 2 * r by omega] at *
  rw [show a + r - r = a by omega, show c + r - r = c by omega]
  rw [S2_all (lx := a) (ly := c) (E := [((a, c), (a + 2 * r, c + u)), ((a + 2 * r, c + u), (a + v, c + 2 * r)), ((a + v, c + 2 * r), (a, c))]) (V := [(a, c), (a + 2 * r, c + u), (a + v, c + 2 * r)]) ?_ ?_ (fun i hi j hj => ?_)]
  · simp only [List.map, sumL, eB, List.length_cons, List.length_nil]
    rw [show max a (a + 2 * r) = a + 2 * r by omega, show min a (a + 2 * r) = a by omega, show max c (c + u) = c + u by omega, show min c (c + u) = c by omega,
      show max (a + 2 * r) (a + v) = a + 2 * r by omega, show min (a + 2 * r) (a + v) = a + v by omega, show max (c + u) (c + 2 * r) = c + 2 * r by omega, show min (c + u) (c + 2 * r) = c + u by omega,
      show max (a + v) a = a + v by omega, show min (a + v) a = a by omega, show max (c + 2 * r) c = c + 2 * r by omega, show min (c + 2 * r) c = c by omega, hM]
    unfold areaN
    simp only [List.length_cons, List.length_nil, sumN, trE, trp_few hf, Nat.reduceAdd, Nat.reduceMod, List.getD_cons_zero, List.getD_cons_succ]
    grind
  · intro e he
    simp only [List.mem_cons, List.not_mem_nil, or_false] at he
    unfold inB
    rcases he with rfl | rfl | rfl <;> dsimp only <;> omega
  · intro e he
    simp only [List.mem_cons, List.not_mem_nil, or_false] at he
    unfold inB
    rcases he with rfl | rfl | rfl <;> dsimp only <;> omega
  · rw [tri_in (by omega) hu hv (by omega) (by omega) hh hf]
    simp only [eS, pS, List.map, sumL]; omega
theorem pick_base {a c R m h lx ly : Int} {M N : Nat} (hm : 0 < m ∧ m < R) (h1 : 1 ≤ h) (hX : lx ≤ a ∧ a + R < lx + M) (hY : ly ≤ c ∧ c + h < ly + N) (hf : Few 40 [(a, c), (a + R, c), (a + m, c + h)]) : S2 (fun i j => wT [(a, c), (a + R, c), (a + m, c + h)] (lx + i) (ly + j)) M N = R * h + 2 := by
  have hh := base_hull (a := a) (c := c) hm h1
  have k1 := fun X Y => (conv3_w hh hf X Y).1
  obtain ⟨i0, hi0⟩ : ∃ i : Nat, (i : Int) = a - lx := ⟨(a - lx).toNat, by omega⟩
  obtain ⟨k0, hk0⟩ : ∃ i : Nat, (i : Int) = c - ly := ⟨(c - ly).toNat, by omega⟩
  obtain ⟨A, hA⟩ : ∃ i : Nat, (i : Int) = R + 1 := ⟨(R + 1).toNat, by omega⟩
  obtain ⟨B, hB⟩ : ∃ i : Nat, (i : Int) = h + 1 := ⟨(h + 1).toNat, by omega⟩
  rw [S2_part (a := i0) (b := A) (c := k0) (d := B) (by omega) (by omega) (fun i hi k hk hr => ?_)]
  · rw [S2_all (lx := a) (ly := c) (E := [((a, c), (a + R, c)), ((a + R, c), (a + m, c + h)), ((a + m, c + h), (a, c))]) (V := [(a, c), (a + R, c), (a + m, c + h)]) ?_ ?_ (fun i hi j hj => ?_)]
    · simp only [List.map, sumL, eB, List.length_cons, List.length_nil]
      rw [show max a (a + R) = a + R by omega, show min a (a + R) = a by omega, show max c c = c by omega, show min c c = c by omega,
        show max (a + R) (a + m) = a + R by omega, show min (a + R) (a + m) = a + m by omega, show max c (c + h) = c + h by omega, show min c (c + h) = c by omega,
        show max (a + m) a = a + m by omega, show min (a + m) a = a by omega, show max (c + h) c = c + h by omega, show min (c + h) c = c by omega, hA, hB]
      grind
    · intro e he
      simp only [List.mem_cons, List.not_mem_nil, or_false] at he
      unfold inB
      rcases he with rfl | rfl | rfl <;> dsimp only <;> omega
    · intro e he
      simp only [List.mem_cons, List.not_mem_nil, or_false] at he
      unfold inB
      rcases he with rfl | rfl | rfl <;> dsimp only <;> omega
    · rw [show lx + ((i0 + i : Nat) : Int) = a + i by omega, show ly + ((k0 + j : Nat) : Int) = c + j by omega, base_in hm h1 (by omega) (by omega) hh hf]
      simp only [eS, pS, List.map, sumL]; omega
  · -- beyond its box
    refine k1 (lx + i) (ly + k) ?_
    obtain ⟨X, hX'⟩ : ∃ X : Int, lx + (i : Int) = a + X := ⟨lx + i - a, by omega⟩
    obtain ⟨Y, hY'⟩ : ∃ Y : Int, ly + (k : Int) = c + Y := ⟨ly + k - c, by omega⟩
    rw [hX', hY']
    have e1 : crP (a, c) (a + R, c) (a + X, c + Y) = R * Y := by unfold crP crs; grind
    have e2 : crP (a + R, c) (a + m, c + h) (a + X, c + Y) = h * (R - X) - (R - m) * Y := by unfold crP crs; grind
    have e3 : crP (a + m, c + h) (a, c) (a + X, c + Y) = h * X - m * Y := by unfold crP crs; grind
    rw [e1, e2, e3]
    have hr' : (X < 0 ∨ R < X) ∨ (Y < 0 ∨ h < Y) := by omega
    by_cases y0 : Y < 0
    · left
      have := Int.mul_pos (show 0 < R by omega) (show 0 < -Y by omega)
      rw [Int.mul_neg] at this; omega
    · have n1 := mulnnH (show 0 ≤ R - m by omega) (show 0 ≤ Y by omega)
      have n2 := mulnnH (show 0 ≤ m by omega) (show 0 ≤ Y by omega)
      rcases hr' with (q | q) | (q | q)
      · have := Int.mul_pos (show 0 < h by omega) (show 0 < -X by omega)
        rw [Int.mul_neg] at this; omega
      · have := Int.mul_pos (show 0 < h by omega) (show 0 < X - R by omega)
        have e : h * (X - R) = -(h * (R - X)) := by grind
        omega
      · omega
      · have a1 := Int.mul_lt_mul_of_pos_left q (show 0 < R by omega)
        have a2 : (h * (R - X) - (R - m) * Y) + (h * X - m * Y) = R * h - R * Y := by grind
        omega
theorem pick_arr {x y r k : Int} {M : Nat} (hr : 2 ≤ r) (hM : (M : Int) = 2 * r + 1) (hk : 0 ≤ k ∧ k < r - 1) (hx : -20 ≤ x ∧ x ≤ 20) (hy : -20 ≤ y ∧ y ≤ 20) (hr9 : r ≤ 19) (hf : Few 40 [(x + (0 - r), y + (0 - r)), (x + 0, y + (-1 - k)), (x + r, y + (0 - r)), (x + 0, y + r)]) : S2 (fun i j => wT [(x + (0 - r), y + (0 - r)), (x + 0, y + (-1 - k)), (x + r, y + (0 - r)), (x + 0, y + r)] (x - r + i) (y - r + j)) M M = areaN [(x + (0 - r), y + (0 - r)), (x + 0, y + (-1 - k)), (x + r, y + (0 - r)), (x + 0, y + r)] + 2 := by
  have ar : areaN [(x + (0 - r), y + (0 - r)), (x + 0, y + (-1 - k)), (x + r, y + (0 - r)), (x + 0, y + r)] = 2 * r * (2 * r) - 2 * r * (r - 1 - k) := by
    unfold areaN
    simp only [List.length_cons, List.length_nil, sumN, trE, trp_few hf, Nat.reduceAdd, Nat.reduceMod, List.getD_cons_zero, List.getD_cons_succ]
    grind
  rw [ar]
  obtain ⟨a, rfl⟩ : ∃ a, x = a + r := ⟨x - r, by omega⟩
  obtain ⟨c, rfl⟩ : ∃ c, y = c + r := ⟨y - r, by omega⟩
  clear ar
  rw [show a + r + (0 - r) = a by omega, show c + r + (0 - r) = c by omega, show a + r + r = a + 2 * r by omega, show a + r + 0 = a + r by omega, show c + r + (-1 - k) = c + (r - 1 - k) by omega, show c + r + r = c + 2 * r by omega] at *
  rw [show a + r - r = a by omega, show c + r - r = c by omega]
  have fT : Few 40 [(a, c), (a + 2 * r, c), (a + r, c + 2 * r)] := few_of (by decide) fun q hq => by
    simp only [List.mem_cons, List.not_mem_nil, or_false] at hq
    rcases hq with rfl | rfl | rfl <;> dsimp only <;> omega
  have fN : Few 40 [(a, c), (a + 2 * r, c), (a + r, c + (r - 1 - k))] := few_of (by decide) fun q hq => by
    simp only [List.mem_cons, List.not_mem_nil, or_false] at hq
    rcases hq with rfl | rfl | rfl <;> dsimp only <;> omega
  rw [S2_congr (fun i hi j hj => arr_w (a := a) (c := c) (R := 2 * r) (m := r) (h := r - 1 - k) (H := 2 * r) (X := a + i) (Y := c + j) (by omega) (by omega) (by omega) (by omega) (by omega) hf fT fN), S2_plus, S2_plus, S2_plus, S2_neg, pick_base (by omega) (by omega) (by omega) (by omega) fT, pick_base (by omega) (by omega) (by omega) (by omega) fN, S2_pt (by dsimp only; omega) (by dsimp only; omega), S2_pt (by dsimp only; omega) (by dsimp only; omega)]
  omega
theorem pick_rng {x y r s u v : Int} {M : Nat} (hx : -20 ≤ x ∧ x ≤ 20) (hy : -20 ≤ y ∧ y ≤ 20) (hr : 4 ≤ r ∧ r ≤ 19) (hM : (M : Int) = 2 * r + 1) : S2 (fun i j => wT (rng x y r s u v) (x - r + i) (y - r + j)) M M = areaN (rng x y r s u v) + 2 ∧ bxo (rng x y r s u v) (rng x y r s u v).length = (x - r, y - r, x + r, y + r) := by
  have hf := rng_few (s := s) (u := u) (v := v) hx hy hr
  have u2 := emod_bd u (n := 2 * r) (by omega)
  have v2 := emod_bd v (n := 2 * r) (by omega)
  have u1 := emod_bd u (n := r) (by omega)
  have v1 := emod_bd v (n := r) (by omega)
  have u3 := emod_bd u (n := r - 1) (by omega)
  unfold rng at hf ⊢
  have bx : ∀ {ps : List (Int × Int)}, Few 40 ps → (∀ q ∈ ps, (x - r ≤ q.1 ∧ q.1 ≤ x + r) ∧ (y - r ≤ q.2 ∧ q.2 ≤ y + r)) → (∃ q ∈ ps, q.1 = x - r) → (∃ q ∈ ps, q.2 = y - r) → (∃ q ∈ ps, q.1 = x + r) → (∃ q ∈ ps, q.2 = y + r) → bxo ps ps.length = (x - r, y - r, x + r, y + r) := fun a b c d e f => bxo_eq a b c d e f
  split
  · rename_i c1
    rw [if_pos c1] at hf
    refine ⟨pick_tri (by omega) hM u2 v2 hf, bx hf ?_ ⟨_, List.mem_cons_self, by dsimp only; omega⟩ ⟨_, List.mem_cons_self, by dsimp only; omega⟩ ⟨_, List.mem_cons_of_mem _ List.mem_cons_self, by dsimp only⟩ ⟨_, List.mem_cons_of_mem _ (List.mem_cons_of_mem _ List.mem_cons_self), by dsimp only⟩⟩
    intro q hq
    simp only [List.mem_cons, List.not_mem_nil, or_false] at hq
    rcases hq with rfl | rfl | rfl <;> dsimp only <;> omega
  · split
    · rename_i c1 c2
      rw [if_neg c1, if_pos c2] at hf
      refine ⟨pick_ell (by omega) hM u1 v1 hf, bx hf ?_ ⟨_, List.mem_cons_self, by dsimp only; omega⟩ ⟨_, List.mem_cons_self, by dsimp only; omega⟩ ⟨_, List.mem_cons_of_mem _ List.mem_cons_self, by dsimp only⟩ ⟨_, List.mem_cons_of_mem _ (List.mem_cons_of_mem _ (List.mem_cons_of_mem _ (List.mem_cons_of_mem _ List.mem_cons_self))), by dsimp only⟩⟩
      intro q hq
      simp only [List.mem_cons, List.not_mem_nil, or_false] at hq
      rcases hq with rfl | rfl | rfl | rfl | rfl | rfl <;> dsimp only <;> omega
    · split
      · rename_i c1 c2 c3
        rw [if_neg c1, if_neg c2, if_pos c3] at hf
        refine ⟨pick_arr (by omega) hM u3 hx hy hr.2 hf, bx hf ?_ ⟨_, List.mem_cons_self, by dsimp only; omega⟩ ⟨_, List.mem_cons_self, by dsimp only; omega⟩ ⟨_, List.mem_cons_of_mem _ (List.mem_cons_of_mem _ List.mem_cons_self), by dsimp only⟩ ⟨_, List.mem_cons_of_mem _ (List.mem_cons_of_mem _ (List.mem_cons_of_mem _ List.mem_cons_self)), by dsimp only⟩⟩
        intro q hq
        simp only [List.mem_cons, List.not_mem_nil, or_false] at hq
        rcases hq with rfl | rfl | rfl | rfl <;> dsimp only <;> omega
      · split
        · rename_i c1 c2 c3 c4
          rw [if_neg c1, if_neg c2, if_neg c3, if_pos c4] at hf
          refine ⟨pick_oct (by omega) hM (by omega) hf, bx hf ?_ ⟨_, List.mem_cons_self, by dsimp only; omega⟩ ⟨_, List.mem_cons_of_mem _ List.mem_cons_self, by dsimp only; omega⟩ ⟨_, List.mem_cons_of_mem _ (List.mem_cons_of_mem _ (List.mem_cons_of_mem _ List.mem_cons_self)), by dsimp only⟩ ⟨_, List.mem_cons_of_mem _ (List.mem_cons_of_mem _ (List.mem_cons_of_mem _ (List.mem_cons_of_mem _ (List.mem_cons_of_mem _ List.mem_cons_self)))), by dsimp only⟩⟩
          intro q hq
          simp only [List.mem_cons, List.not_mem_nil, or_false] at hq
          rcases hq with rfl | rfl | rfl | rfl | rfl | rfl | rfl | rfl <;> dsimp only <;> omega
        · rename_i c1 c2 c3 c4
          rw [if_neg c1, if_neg c2, if_neg c3, if_neg c4] at hf
          refine ⟨pick_sq (by omega) hM hf, bx hf ?_ ⟨_, List.mem_cons_self, by dsimp only; omega⟩ ⟨_, List.mem_cons_self, by dsimp only; omega⟩ ⟨_, List.mem_cons_of_mem _ List.mem_cons_self, by dsimp only⟩ ⟨_, List.mem_cons_of_mem _ (List.mem_cons_of_mem _ List.mem_cons_self), by dsimp only⟩⟩
          intro q hq
          simp only [List.mem_cons, List.not_mem_nil, or_false] at hq
          rcases hq with rfl | rfl | rfl | rfl <;> dsimp only <;> omega
/-- the ring that is drawn: its box, and the sum over it -/
theorem pick_rngL (xs : List Int) : ∃ (a b : Int) (M : Nat), ((-40 ≤ a ∧ a ≤ 40) ∧ (-40 ≤ b ∧ b ≤ 40)) ∧ (1 ≤ M ∧ M ≤ 39) ∧ bxo (rngL xs) (rngL xs).length = (a, b, a + (M : Int) - 1, b + (M : Int) - 1) ∧ S2 (fun i j => wT (rngL xs) (a + i) (b + j)) M M = areaN (rngL xs) + 2 := by
  have c0 := emod_bd (xs.getD 0 0) (n := 40) (by decide)
  have c1 := emod_bd (xs.getD 1 0) (n := 40) (by decide)
  have c2 := emod_bd (xs.getD 2 0) (n := 16) (by decide)
  obtain ⟨M, hM⟩ : ∃ M : Nat, (M : Int) = 2 * (4 + xs.getD 2 0 % 16) + 1 := ⟨(2 * (4 + xs.getD 2 0 % 16) + 1).toNat, by omega⟩
  obtain ⟨p1, p2⟩ := pick_rng (s := xs.getD 3 0 % 5) (u := xs.getD 4 0) (v := xs.getD 5 0) (show -20 ≤ xs.getD 0 0 % 40 - 20 ∧ xs.getD 0 0 % 40 - 20 ≤ 20 by omega) (show -20 ≤ xs.getD 1 0 % 40 - 20 ∧ xs.getD 1 0 % 40 - 20 ≤ 20 by omega) (show 4 ≤ 4 + xs.getD 2 0 % 16 ∧ 4 + xs.getD 2 0 % 16 ≤ 19 by omega) hM
  refine ⟨_, _, M, by omega, by omega, ?_, p1⟩
  unfold rngL
  rw [p2]
  refine Prod.ext rfl (Prod.ext rfl (Prod.ext ?_ ?_)) <;> dsimp only <;> omega
end Go.Proofs.Ytomnkdlfmjdckaa.Am.Sp

set_option linter.unusedVariables false
set_option linter.unusedSimpArgs false
namespace Go.Proofs.Ytomnkdlfmjdckaa.Am.Sp
open Go
/-! How many points of a box are in a ring, how many on it, column by column -/
def isV (ps : List (Int × Int)) (v X Y : Int) : Int := if hasF ps X Y 0 (-1) = v then 1 else 0
def cnI (ps : List (Int × Int)) (a b : Int) (M : Nat) (v : Int) (i j : Nat) : Int := S2 (fun i k => isV ps v (a + i) (b + k)) i M + sumN (fun k => isV ps v (a + i) (b + k)) j
section
variable {ps : List (Int × Int)} {a b v n : Int} {M i j : Nat}
theorem isV_bd (ps : List (Int × Int)) (v X Y : Int) : 0 ≤ isV ps v X Y ∧ isV ps v X Y ≤ 1 := by unfold isV; split <;> omega
theorem cnI_zero : cnI ps a b M v 0 0 = 0 := rfl
theorem cnI_roll : cnI ps a b M v i M = cnI ps a b M v (i + 1) 0 := by
  show S2 (fun i k => isV ps v (a + i) (b + k)) i M + sumN (fun k => isV ps v (a + i) (b + k)) M = (S2 (fun i k => isV ps v (a + i) (b + k)) i M + sumN (fun k => isV ps v (a + i) (b + k)) M) + 0
  exact (Int.add_zero _).symm
theorem cnI_step (hn : hasF ps (a + i) (b + j) 0 (-1) = n) : (n = v → cnI ps a b M v i (j + 1) = cnI ps a b M v i j + 1) ∧ (n ≠ v → cnI ps a b M v i (j + 1) = cnI ps a b M v i j) := by
  unfold cnI
  rw [sumN]
  unfold isV
  rw [hn]
  refine ⟨fun h => ?_, fun h => ?_⟩
  · rw [if_pos h]; omega
  · rw [if_neg h]; omega
theorem sumN_bd01 {f : Nat → Int} {c : Int} (h : ∀ i, 0 ≤ f i ∧ f i ≤ c) : ∀ n : Nat, 0 ≤ sumN f n ∧ sumN f n ≤ c * n
  | 0 => by simp [sumN]
  | n + 1 => by
    have a := sumN_bd01 h n
    have b := h n
    rw [sumN, Int.natCast_succ, Int.mul_add, Int.mul_one]; omega
theorem cnI_bd (hM : M ≤ 39) (hi : i ≤ 39) (hj : j ≤ 39) : 0 ≤ cnI ps a b M v i j ∧ cnI ps a b M v i j ≤ 1600 := by
  unfold cnI
  have k1 : 0 ≤ S2 (fun i k => isV ps v (a + i) (b + k)) i M ∧ S2 (fun i k => isV ps v (a + i) (b + k)) i M ≤ 39 * i := sumN_bd01 (f := fun i => sumN (fun k => isV ps v (a + i) (b + k)) M) (c := 39) (fun i => by
    have := sumN_bd01 (f := fun k => isV ps v (a + i) (b + k)) (c := 1) (fun k => isV_bd ..) M
    omega) i
  have k2 := sumN_bd01 (f := fun k : Nat => isV ps v (a + i) (b + k)) (c := 1) (fun k => isV_bd ..) j
  omega
theorem cnI_all : 2 * cnI ps a b M 1 M 0 + cnI ps a b M 0 M 0 = S2 (fun i k => wT ps (a + i) (b + k)) M M := by
  have e : S2 (fun i k => wT ps (a + i) (b + k)) M M = S2 (fun i k : Nat => (isV ps 1 (a + i) (b + k) + isV ps 1 (a + i) (b + k)) + isV ps 0 (a + i) (b + k)) M M := S2_congr fun i _ k _ => by
    unfold wT isV
    rcases has_cases ps (a + i) (b + k) with h | h | h <;> rw [h] <;> rfl
  rw [e, S2_plus, S2_plus]
  unfold cnI
  rw [sumN, sumN]; omega
end
/-- what RingPick counts -/
theorem pick_count (xs : List Int) : ∃ (a b : Int) (M : Nat), ((-40 ≤ a ∧ a ≤ 40) ∧ (-40 ≤ b ∧ b ≤ 40)) ∧ (1 ≤ M ∧ M ≤ 39) ∧ bxo (rngL xs) (rngL xs).length = (a, b, a + (M : Int) - 1, b + (M : Int) - 1) ∧ areaN (rngL xs) = 2 * cnI (rngL xs) a b M 1 M 0 + cnI (rngL xs) a b M 0 M 0 - 2 := by
  obtain ⟨a, b, M, h1, h2, h3, h4⟩ := pick_rngL xs
  exact ⟨a, b, M, h1, h2, h3, by rw [cnI_all, h4]; omega⟩
end Go.Proofs.Ytomnkdlfmjdckaa.Am.Sp

