import Derived.Test.YtomnkdlfmjdckaaHu8
set_option linter.unusedVariables false
set_option linter.unusedSimpArgs false
namespace Go.Proofs.Ytomnkdlfmjdckaa.Am.Sp
open Go
/-! The document's hull: always to the one that has all others to the left -/
def ddN (ps : List (Int × Int)) : Nat → List (Int × Int)
  | 0 => []
  | i + 1 => if (ddN ps i).any (eqTo (lmP (ps.getD i (0, 0)))) = true then ddN ps i else ddN ps i ++ [lmP (ps.getD i (0, 0))]
theorem ddN_mem {ps : List (Int × Int)} : ∀ {n : Nat} {q : Int × Int}, n ≤ ps.length → (q ∈ ddN ps n ↔ ∃ i, i < n ∧ q = lmP (ps.getD i (0, 0)))
  | 0, q, _ => by simp [ddN]
  | n + 1, q, hn => by
    have ih := ddN_mem (ps := ps) (n := n) (q := q) (by omega)
    rw [ddN]
    split
    · rename_i h
      obtain ⟨z, hz, e⟩ := List.any_eq_true.1 h
      have e := (eqTo_iff _ _).1 e
      rw [ih]
      constructor
      · rintro ⟨i, hi, e⟩; exact ⟨i, by omega, e⟩
      · rintro ⟨i, hi, e2⟩
        by_cases c : i < n
        · exact ⟨i, c, e2⟩
        · have : i = n := by omega
          subst this
          rw [e2, e]
          exact (ddN_mem (by omega)).1 hz
    · rw [List.mem_append, ih, List.mem_singleton]
      constructor
      · rintro (⟨i, hi, e⟩ | e)
        · exact ⟨i, by omega, e⟩
        · exact ⟨n, by omega, e⟩
      · rintro ⟨i, hi, e⟩
        by_cases c : i < n
        · exact .inl ⟨i, c, e⟩
        · have : i = n := by omega
          subst this; exact .inr e
theorem ddN_len (ps : List (Int × Int)) : ∀ n, (ddN ps n).length ≤ n
  | 0 => Nat.le_refl _
  | n + 1 => by have := ddN_len ps n; rw [ddN]; split <;> (try rw [List.length_append]) <;> (try simp only [List.length_cons, List.length_nil]) <;> omega
theorem ddN_pos (ps : List (Int × Int)) : ∀ n, 1 ≤ n → 1 ≤ (ddN ps n).length
  | 1, _ => by simp [ddN]
  | n + 2, _ => by have := ddN_pos ps (n + 1) (by omega); rw [ddN]; split <;> (try rw [List.length_append]) <;> omega
/-- the points, each once, as they are met -/
theorem ddN_all {ps : List (Int × Int)} {q : Int × Int} : q ∈ ddN ps ps.length ↔ q ∈ ps.map lmP := by
  rw [ddN_mem (Nat.le_refl _), List.mem_map]
  constructor
  · rintro ⟨i, hi, e⟩; exact ⟨_, mem_getD hi, e.symm⟩
  · rintro ⟨z, hz, e⟩
    obtain ⟨i, hi, e2⟩ := List.mem_iff_getElem.1 hz
    exact ⟨i, hi, by rw [getD_lt hi, e2, e]⟩
def stJ (a x p : Int × Int) : Bool := ((x.1 == a.1) && ((x.2 == a.2) && true)) || (decide (crP a x p < 0) || (decide (crP a x p = 0) && decide (dsq a p > dsq a x)))
def nxJ (pts : List (Int × Int)) (a : Int × Int) : Nat → Int × Int
  | 0 => a
  | k + 1 => if stJ a (nxJ pts a k) (pts.getD k (0, 0)) = true then pts.getD k (0, 0) else nxJ pts a k
theorem stJ_iff (a x p : Int × Int) : stJ a x p = true ↔ x = a ∨ crP a x p < 0 ∨ (crP a x p = 0 ∧ dsq a x < dsq a p) := by
  unfold stJ
  rw [Bool.or_eq_true, Bool.or_eq_true, eqb_iff, decide_eq_true_eq, Bool.and_eq_true, decide_eq_true_eq, decide_eq_true_eq]
theorem dsq_self (a : Int × Int) : dsq a a = 0 := by unfold dsq dot; simp
theorem dsq_nn (a q : Int × Int) : 0 ≤ dsq a q := by
  unfold dsq dot
  have := sqr_nonneg (q.1 - a.1)
  have := sqr_nonneg (q.2 - a.2)
  omega
/-- a linear function that is positive at all points but a -/
def Ahd (d a q : Int × Int) : Int := d.1 * (q.2 - a.2) - d.2 * (q.1 - a.1)
theorem ahd_id (d a x p q : Int × Int) : Ahd d a x * crP a p q = Ahd d a p * crP a x q + Ahd d a q * crP a p x := by unfold Ahd crP crs; grind
structure Scn (d a x : Int × Int) (l : List (Int × Int)) : Prop where
  ok : (x = a ∧ ∀ q ∈ l, q = a) ∨ (x ≠ a ∧ x ∈ l ∧ ∀ q ∈ l, 0 ≤ crP a x q ∧ (crP a x q = 0 → dsq a q ≤ dsq a x))
theorem nx_scan {pts : List (Int × Int)} {d a : Int × Int} (hF : ∀ q ∈ pts, q ≠ a → 0 < Ahd d a q) : ∀ k, k ≤ pts.length → Scn d a (nxJ pts a k) (pts.take k)
  | 0, _ => ⟨.inl ⟨rfl, by simp⟩⟩
  | k + 1, hk => by
    obtain ⟨ih⟩ := nx_scan hF k (by omega)
    have hsub : ∀ q ∈ pts.take k, q ∈ pts := fun q hq => List.mem_of_mem_take hq
    rw [take_one_more (by omega), nxJ]
    have hp : pts.getD k (0, 0) ∈ pts := mem_getD (by omega)
    generalize pts.getD k (0, 0) = p at *
    generalize nxJ pts a k = x at *
    generalize pts.take k = l at *
    refine ⟨?_⟩
    split
    · rename_i c
      by_cases hpa : p = a
      · -- a itself: only if nothing else was met
        subst hpa
        left
        refine ⟨rfl, fun q hq => ?_⟩
        rcases List.mem_append.1 hq with g | g
        · rcases ih with ⟨_, ih⟩ | ⟨hx, _, _⟩
          · exact ih q g
          · exfalso
            rcases (stJ_iff _ _ _).1 c with k1 | k1 | k1
            · exact hx k1
            · rw [crP_aba] at k1; omega
            · have := dsq_nn p x; rw [dsq_self] at k1; omega
        · exact List.mem_singleton.1 g
      · right
        refine ⟨hpa, List.mem_append.2 (.inr (by simp)), fun q hq => ?_⟩
        rcases List.mem_append.1 hq with g | g
        · by_cases hqa : q = a
          · subst hqa; rw [crP_aba, dsq_self]; exact ⟨Int.le_refl _, fun _ => dsq_nn _ _⟩
          · rcases ih with ⟨_, ih⟩ | ⟨hx, hxl, ih⟩
            · exact (hqa (ih q g)).elim
            · have i1 := ih q g
              have fx := hF x (hsub x hxl) hx
              have fp := hF p hp hpa
              have fq := hF q (hsub q g) hqa
              have id1 := ahd_id d a x p q
              have fl := crP_flip a x p
              rcases (stJ_iff _ _ _).1 c with k1 | k1 | k1
              · exact (hx k1).elim
              · have n1 := mulnnH (Int.le_of_lt fp) i1.1
                have n2 : 0 < Ahd d a q * crP a p x := Int.mul_pos fq (by omega)
                have pos : 0 < crP a p q := by
                  apply Classical.byContradiction; intro hn
                  have := Int.mul_nonpos_of_nonneg_of_nonpos (Int.le_of_lt fx) (show crP a p q ≤ 0 by omega)
                  omega
                exact ⟨by omega, fun e => by omega⟩
              · rw [show crP a p x = 0 by omega, Int.mul_zero, Int.add_zero] at id1
                have n1 := mulnnH (Int.le_of_lt fp) i1.1
                refine ⟨?_, fun e => ?_⟩
                · apply Classical.byContradiction; intro hn
                  have := Int.mul_neg_of_pos_of_neg fx (show crP a p q < 0 by omega)
                  omega
                · rw [e, Int.mul_zero] at id1
                  have z := (Int.mul_eq_zero.1 id1.symm).resolve_left (by omega)
                  have := i1.2 z
                  omega
        · rw [List.mem_singleton.1 g, crP_self]; exact ⟨Int.le_refl _, fun _ => Int.le_refl _⟩
    · rename_i c
      have c' := fun h => c ((stJ_iff a x p).2 h)
      have hx : x ≠ a := fun h => c' (.inl h)
      rcases ih with ⟨h, _⟩ | ⟨_, hxl, ih⟩
      · exact (hx h).elim
      · right
        refine ⟨hx, List.mem_append.2 (.inl hxl), fun q hq => ?_⟩
        rcases List.mem_append.1 hq with g | g
        · exact ih q g
        · rw [List.mem_singleton.1 g]
          have h1 : ¬ crP a x p < 0 := fun h => c' (.inr (.inl h))
          refine ⟨by omega, fun e => ?_⟩
          have h2 : ¬ dsq a x < dsq a p := fun h => c' (.inr (.inr ⟨e, h⟩))
          omega
/-- two points ahead on one line from a: the linear function tells them apart -/
theorem line_pts {d a x b : Int × Int} (h0 : crP a x b = 0) : Ahd d a b * (x.1 - a.1) = Ahd d a x * (b.1 - a.1) ∧ Ahd d a b * (x.2 - a.2) = Ahd d a x * (b.2 - a.2) := by
  have e1 : Ahd d a b * (x.1 - a.1) - Ahd d a x * (b.1 - a.1) = d.1 * -(-(crP a x b)) := by unfold Ahd crP crs; grind
  have e2 : Ahd d a b * (x.2 - a.2) - Ahd d a x * (b.2 - a.2) = d.2 * -(-(crP a x b)) := by unfold Ahd crP crs; grind
  rw [h0] at e1 e2
  simp only [Int.neg_zero, Int.mul_zero] at e1 e2
  omega
theorem line_same {d a x b : Int × Int} (h0 : crP a x b = 0) (fx : 0 < Ahd d a x) (fb : 0 < Ahd d a b) (hd : dsq a b ≤ dsq a x) (hle : Ahd d a x ≤ Ahd d a b) : x = b := by
  obtain ⟨l1, l2⟩ := line_pts (d := d) h0
  have sq : Ahd d a b * Ahd d a b * dsq a x = Ahd d a x * Ahd d a x * dsq a b := by
    have e : ∀ z : Int × Int, dsq a z = (z.1 - a.1) * (z.1 - a.1) + (z.2 - a.2) * (z.2 - a.2) := fun z => by unfold dsq dot; rfl
    rw [e, e]
    generalize Ahd d a b = B at *
    generalize Ahd d a x = X at *
    calc B * B * ((x.1 - a.1) * (x.1 - a.1) + (x.2 - a.2) * (x.2 - a.2)) = (B * (x.1 - a.1)) * (B * (x.1 - a.1)) + (B * (x.2 - a.2)) * (B * (x.2 - a.2)) := by grind
      _ = (X * (b.1 - a.1)) * (X * (b.1 - a.1)) + (X * (b.2 - a.2)) * (X * (b.2 - a.2)) := by rw [l1, l2]
      _ = _ := by grind
  have hb : dsq a b ≠ 0 := fun z => by
    have e : dsq a b = (b.1 - a.1) * (b.1 - a.1) + (b.2 - a.2) * (b.2 - a.2) := by unfold dsq dot; rfl
    have n1 := sqr_nonneg (b.1 - a.1)
    have n2 := sqr_nonneg (b.2 - a.2)
    have z1 : (b.1 - a.1) * (b.1 - a.1) = 0 := by omega
    have z2 : (b.2 - a.2) * (b.2 - a.2) = 0 := by omega
    have y1 : b.1 - a.1 = 0 := by rcases Int.mul_eq_zero.1 z1 with k | k <;> exact k
    have y2 : b.2 - a.2 = 0 := by rcases Int.mul_eq_zero.1 z2 with k | k <;> exact k
    unfold Ahd at fb
    rw [y1, y2] at fb; simp at fb
  have bpos : 0 < dsq a b := by have := dsq_nn a b; omega
  have hge : Ahd d a b ≤ Ahd d a x := by
    apply Classical.byContradiction; intro hn
    have lt2 : Ahd d a x * Ahd d a x < Ahd d a b * Ahd d a b := by
      have m1 := Int.mul_le_mul_of_nonneg_left (show Ahd d a x ≤ Ahd d a b by omega) (Int.le_of_lt fx)
      have m2 := Int.mul_lt_mul_of_pos_right (show Ahd d a x < Ahd d a b by omega) fb
      omega
    have m3 := Int.mul_lt_mul_of_pos_right lt2 bpos
    have m4 := Int.mul_le_mul_of_nonneg_left hd (Int.le_of_lt (Int.mul_pos fb fb))
    omega
  have he : Ahd d a x = Ahd d a b := by omega
  rw [he] at l1 l2
  have q1 := Int.eq_of_mul_eq_mul_left (by omega) l1
  have q2 := Int.eq_of_mul_eq_mul_left (by omega) l2
  exact Prod.ext (by omega) (by omega)
end Go.Proofs.Ytomnkdlfmjdckaa.Am.Sp

set_option linter.unusedVariables false
set_option linter.unusedSimpArgs false
namespace Go.Proofs.Ytomnkdlfmjdckaa.Am.Sp
open Go
/-! Where the document's scan ends: at the next corner -/
theorem nx_end {pts : List (Int × Int)} {d a b : Int × Int} (hF : ∀ q ∈ pts, q ≠ a → 0 < Ahd d a q) (hb : b ∈ pts) (hne : b ≠ a) (he : ∀ q ∈ pts, 0 ≤ crP a b q) (hl : ∀ q ∈ pts, crP a b q = 0 → Ahd d a q ≤ Ahd d a b) : nxJ pts a pts.length = b := by
  obtain ⟨k⟩ := nx_scan hF pts.length (Nat.le_refl _)
  rw [List.take_length] at k
  generalize nxJ pts a pts.length = x at *
  rcases k with ⟨_, k⟩ | ⟨hx, hxl, k⟩
  · exact (hne (k b hb)).elim
  · have k1 := k b hb
    have k2 := he x hxl
    have fl := crP_flip a x b
    have h0 : crP a x b = 0 := by omega
    exact line_same h0 (hF x hxl hx) (hF b hb hne) (k1.2 h0) (hl x hxl (by omega))
theorem nx_three {pts : List (Int × Int)} {p a b c : Int × Int} (tp : 0 < crP p a b) (tc : 0 < crP a b c) (e1 : ∀ q ∈ pts, 0 ≤ crP p a q) (e2 : ∀ q ∈ pts, 0 ≤ crP a b q) (e3 : ∀ q ∈ pts, 0 ≤ crP b c q) (hb : b ∈ pts) : nxJ pts a pts.length = b := by
  have hA : ∀ q, Ahd (b.1 - p.1, b.2 - p.2) a q = crP p a q + crP a b q := fun q => by unfold Ahd crP crs; grind
  refine nx_end (d := (b.1 - p.1, b.2 - p.2)) (fun q hq hne => ?_) hb (fun e => by subst e; rw [crP_self] at tp; omega) e2 (fun q hq h0 => ?_)
  · rw [hA]
    have i1 := e1 q hq
    have i2 := e2 q hq
    apply Classical.byContradiction; intro hn
    have z1 : crP p a q = 0 := by omega
    have z2 : crP a b q = 0 := by omega
    have l1 : (q.1 - a.1) * crP p a b = (b.1 - a.1) * crP p a q - (a.1 - p.1) * crP a b q := by unfold crP crs; grind
    have l2 : (q.2 - a.2) * crP p a b = (b.2 - a.2) * crP p a q - (a.2 - p.2) * crP a b q := by unfold crP crs; grind
    rw [z1, z2] at l1 l2
    simp only [Int.mul_zero, Int.sub_zero] at l1 l2
    have y1 := (Int.mul_eq_zero.1 l1).resolve_right (by omega)
    have y2 := (Int.mul_eq_zero.1 l2).resolve_right (by omega)
    exact hne (Prod.ext (by omega) (by omega))
  · rw [hA, hA, crP_self, h0]
    have i3 := e3 q hq
    -- on the line from a over b: behind b it would be right of the next edge
    have e : crP p a b * crP b c q = (crP p a b - crP p a q) * crP a b c + crP a b q * (crP p a c - crP p a b) := by unfold crP crs; grind
    rw [h0, Int.zero_mul, Int.add_zero] at e
    have n1 := mulnnH (Int.le_of_lt tp) i3
    apply Classical.byContradiction; intro hn
    have := Int.mul_neg_of_neg_of_pos (show crP p a b - crP p a q < 0 by omega) tc
    omega
theorem dot_lex {u1 u2 v1 v2 : Int} (hu : 0 < u1 ∨ (u1 = 0 ∧ 0 < u2)) (hv : 0 < v1 ∨ (v1 = 0 ∧ 0 < v2)) (h0 : u1 * v2 - u2 * v1 = 0) : 0 < u1 * v1 + u2 * v2 := by
  rcases hu with hu | ⟨rfl, hu⟩
  · rcases hv with hv | ⟨rfl, hv⟩
    · have p1 := Int.mul_pos hu hv
      have e : u1 * (u2 * v2) = u2 * (u2 * v1) := by
        have : u1 * v2 = u2 * v1 := by omega
        calc u1 * (u2 * v2) = u2 * (u1 * v2) := by grind
          _ = _ := by rw [this]
      have e2 : u2 * (u2 * v1) = (u2 * u2) * v1 := by grind
      have n := mulnnH (sqr_nonneg u2) (Int.le_of_lt hv)
      have : 0 ≤ u2 * v2 := by
        apply Classical.byContradiction; intro hn
        have := Int.mul_neg_of_pos_of_neg hu (show u2 * v2 < 0 by omega)
        omega
      omega
    · have := Int.mul_pos hu hv
      rw [Int.mul_zero, Int.sub_zero] at h0; omega
  · rw [Int.zero_mul, Int.zero_sub] at h0
    rcases hv with hv | ⟨rfl, hv⟩
    · have := Int.mul_pos hu hv; omega
    · rw [Int.mul_zero, Int.zero_add]; exact Int.mul_pos hu hv
theorem lxP_vec {a b : Int × Int} (h : lxP a b) : 0 < b.1 - a.1 ∨ (b.1 - a.1 = 0 ∧ 0 < b.2 - a.2) := by unfold lxP at h; omega
theorem nx_two1 {pts : List (Int × Int)} {a b : Int × Int} (hab : lxP a b) (h0 : ∀ q ∈ pts, crP a b q = 0 ∧ (q = a ∨ lxP a q) ∧ (q = b ∨ lxP q b)) (hb : b ∈ pts) : nxJ pts a pts.length = b := by
  have hne : b ≠ a := fun e => by subst e; exact hab.irr
  refine nx_end (d := (b.2 - a.2, -(b.1 - a.1))) (fun q hq h => ?_) hb hne (fun q hq => by rw [(h0 q hq).1]; exact Int.le_refl _) (fun q hq _ => ?_)
  · obtain ⟨k1, k2, _⟩ := h0 q hq
    have := dot_lex (lxP_vec hab) (lxP_vec (k2.resolve_left h)) (by rw [← k1]; unfold crP crs; grind)
    unfold Ahd; grind
  · obtain ⟨k1, _, k3⟩ := h0 q hq
    rcases k3 with rfl | k3
    · exact Int.le_refl _
    · have := dot_lex (lxP_vec hab) (lxP_vec k3) (by rw [show (0 : Int) = -0 from rfl, ← k1]; unfold crP crs; grind)
      unfold Ahd; grind
theorem nx_two2 {pts : List (Int × Int)} {a b : Int × Int} (hab : lxP b a) (h0 : ∀ q ∈ pts, crP b a q = 0 ∧ (q = b ∨ lxP b q) ∧ (q = a ∨ lxP q a)) (hb : b ∈ pts) : nxJ pts a pts.length = b := by
  have hne : b ≠ a := fun e => by subst e; exact hab.irr
  have fl : ∀ q, crP a b q = -crP b a q := fun q => by unfold crP crs; grind
  refine nx_end (d := (b.2 - a.2, -(b.1 - a.1))) (fun q hq h => ?_) hb hne (fun q hq => by rw [fl, (h0 q hq).1]; exact Int.le_refl _) (fun q hq _ => ?_)
  · obtain ⟨k1, _, k2⟩ := h0 q hq
    have := dot_lex (lxP_vec hab) (lxP_vec (k2.resolve_left h)) (by rw [show (0 : Int) = -0 from rfl, ← k1]; unfold crP crs; grind)
    unfold Ahd; grind
  · obtain ⟨k1, k3, _⟩ := h0 q hq
    rcases k3 with rfl | k3
    · exact Int.le_refl _
    · have := dot_lex (lxP_vec hab) (lxP_vec k3) (by rw [← k1]; unfold crP crs; grind)
      unfold Ahd; grind
theorem nx_mem {pts : List (Int × Int)} {a : Int × Int} : ∀ k, k ≤ pts.length → nxJ pts a k = a ∨ nxJ pts a k ∈ pts
  | 0, _ => .inl rfl
  | k + 1, h => by
    rw [nxJ]; split
    · exact .inr (mem_getD (by omega))
    · exact nx_mem k (by omega)
/-- the next corner of the hull, by the document's scan -/
theorem nx_hull {ps pts : List (Int × Int)} (hp : ∀ q, q ∈ pts ↔ q ∈ ps) (h1 : 1 ≤ ps.length) {i : Nat} (hi : i < (hullF ps).length) :
    nxJ pts ((hullF ps).getD i (0, 0)) pts.length = (hullF ps).getD ((i + 1) % (hullF ps).length) (0, 0) := by
  have hin : ∀ {j}, j < (hullF ps).length → (hullF ps).getD j (0, 0) ∈ pts := fun hj => (hp _).2 (hull_sub (mem_getD hj))
  rcases Nat.lt_or_ge 2 (hullF ps).length with c | c
  · obtain ⟨n, hn⟩ : ∃ n, (hullF ps).length = n := ⟨_, rfl⟩
    have hj : (i + (n - 1)) % n < n := Nat.mod_lt _ (by omega)
    have m1 : ((i + (n - 1)) % n + 1) % n = i := by rw [Nat.mod_add_mod, show i + (n - 1) + 1 = i + n by omega, Nat.add_mod_right, Nat.mod_eq_of_lt (by omega)]
    have m2 : ((i + (n - 1)) % n + 2) % n = (i + 1) % n := by rw [Nat.mod_add_mod, show i + (n - 1) + 2 = i + 1 + n by omega, Nat.add_mod_right]
    have m3 : ((i + 1) % n + 1) % n = (i + 2) % n := by rw [Nat.mod_add_mod]
    have t1 := hull_turn c (i := (i + (n - 1)) % n) (by omega)
    have t2 := hull_turn c (i := i) hi
    have e1 : ∀ q ∈ ps, _ := fun q hq => hull_edge (ps := ps) (by omega) (i := (i + (n - 1)) % n) (by omega) hq
    have e2 : ∀ q ∈ ps, _ := fun q hq => hull_edge (ps := ps) (by omega) (i := i) (by omega) hq
    have e3 : ∀ q ∈ ps, _ := fun q hq => hull_edge (ps := ps) (by omega) (i := (i + 1) % n) (by have := Nat.mod_lt (i + 1) (show 0 < n by omega); omega) hq
    have hb := hin (j := (i + 1) % n) (by have := Nat.mod_lt (i + 1) (show 0 < n by omega); omega)
    rw [hn] at t1 t2 e1 e2 e3 ⊢
    rw [m1, m2] at t1
    rw [m1] at e1
    rw [m3] at e3
    exact nx_three t1 t2 (fun q hq => e1 q ((hp q).1 hq)) (fun q hq => e2 q ((hp q).1 hq)) (fun q hq => e3 q ((hp q).1 hq)) hb
  · rcases Nat.lt_or_ge 1 (hullF ps).length with g | g
    · have e : (hullF ps).length = 2 := by omega
      have k : ∀ q ∈ ps, _ := fun q hq => hull_two e hq
      have k0 := (k _ ((hp _).1 (hin hi))).1
      have b0 := hin (j := 0) (by omega)
      have b1 := hin (j := 1) (by omega)
      rw [e]
      by_cases c0 : i = 0
      · subst c0
        exact nx_two1 k0 (fun q hq => (k q ((hp q).1 hq)).2) b1
      · have : i = 1 := by omega
        subst this
        exact nx_two2 k0 (fun q hq => (k q ((hp q).1 hq)).2) b0
    · have e : (hullF ps).length = 1 := by omega
      have : i = 0 := by omega
      subst this
      rw [e]
      rcases nx_mem (pts := pts) (a := (hullF ps).getD 0 (0, 0)) pts.length (Nat.le_refl _) with k | k
      · exact k
      · exact hull_one e ((hp _).1 k)
end Go.Proofs.Ytomnkdlfmjdckaa.Am.Sp

set_option linter.unusedVariables false
set_option linter.unusedSimpArgs false
namespace Go.Proofs.Ytomnkdlfmjdckaa.Am.Sp
open Go
/-! Hulls: the least corner; how many; the fan of triangles; the greatest distance -/
theorem ds_lt {C : List (Int × Int)} (h : Ds C) {i j : Nat} (hij : i < j) (hj : j < C.length) : lxP (C.getD j (0, 0)) (C.getD i (0, 0)) := by
  rw [getD_lt hj, getD_lt (by omega)]
  exact List.pairwise_iff_getElem.1 h.pair i j (by omega) hj hij
theorem srd_two {ps : List (Int × Int)} (c : 2 ≤ (hullF ps).length) : 2 ≤ (srd ps).length := by
  rcases Nat.lt_or_ge (srd ps).length 2 with g | g
  · rw [hullF_one g] at c; omega
  · exact g
theorem up_lt {S L U : List (Int × Int)} (h : Hul S L U) : ∀ {j : Nat}, 0 < j → j < U.length → lxP (U.getD 0 (0, 0)) (U.getD j (0, 0))
  | 1, _, hj => h.upD hj
  | j + 2, _, hj => (up_lt h (by omega) (by omega : j + 1 < U.length)).trans (h.upD hj)
/-- the first corner is the least of all points -/
theorem hull_least {ps : List (Int × Int)} (h1 : 1 ≤ ps.length) :
    (∀ q ∈ ps, q = (hullF ps).getD 0 (0, 0) ∨ lxP ((hullF ps).getD 0 (0, 0)) q) ∧ ∀ i, 0 < i → i < (hullF ps).length → lxP ((hullF ps).getD 0 (0, 0)) ((hullF ps).getD i (0, 0)) := by
  have hl := hull_len h1
  rcases Nat.lt_or_ge (hullF ps).length 2 with c | c
  · have e : (hullF ps).length = 1 := by omega
    exact ⟨fun q hq => .inl (hull_one e hq), fun i h0 hi => by omega⟩
  · have g := srd_two c
    obtain ⟨q, q2⟩ := hul_srd g
    have eh := hullF_two g
    have hp := q.posU
    rw [eh] at c ⊢
    generalize stk (srd ps) (srd ps).length = L at *
    generalize stk (srd ps).reverse (srd ps).reverse.length = U at *
    have e0 : (ring2 L U).getD 0 (0, 0) = L.getD (L.length - 1) (0, 0) := by rw [q.ring_at (by omega), cnr, if_pos (by omega), Nat.sub_zero]
    rw [e0]
    refine ⟨fun p hp => (q.bot).2 p (srd_mem.2 hp), fun i h0 hi => ?_⟩
    rw [q.ring_at hi, cnr]
    split
    · exact ds_lt q.low.ds (by omega) (by omega)
    · rw [← q.utop]; rw [ring2_len] at hi; exact up_lt q (by omega) (by omega)
theorem hull_few {ps pts : List (Int × Int)} (hp : ∀ q, q ∈ pts ↔ q ∈ ps) (h1 : 1 ≤ ps.length) : (hullF ps).length ≤ pts.length := by
  have hn : (srd ps).Nodup := (srd_rise ps).imp (fun {a b} k e => by subst e; exact k.irr)
  have k := nodup_sub_len hn (m := pts) (fun p hq => (hp p).2 (srd_mem.1 hq))
  refine Nat.le_trans ?_ k
  rw [hullF_eq, hullL]
  split
  · exact Nat.le_refl _
  · rw [List.length_append]; exact both_chO (srd_rise ps) (srd_pos h1)
/-- from the first corner on, later corners lie further to the left -/
theorem fan_left {ps : List (Int × Int)} (h3 : 2 < (hullF ps).length) : ∀ {j : Nat}, 1 ≤ j → j + 1 < (hullF ps).length → 0 < crP ((hullF ps).getD 0 (0, 0)) ((hullF ps).getD j (0, 0)) ((hullF ps).getD (j + 1) (0, 0))
  | 0, h, _ => by omega
  | 1, _, hj => by
    have t := hull_turn h3 (i := 0) (by omega)
    rw [Nat.mod_eq_of_lt (by omega), Nat.mod_eq_of_lt (by omega)] at t
    exact t
  | j + 2, _, hj => by
    have ih := fan_left h3 (j := j + 1) (by omega) (by omega)
    obtain ⟨n, hn⟩ : ∃ n, (hullF ps).length = n := ⟨_, rfl⟩
    have hin : ∀ {i}, i < (hullF ps).length → (hullF ps).getD i (0, 0) ∈ ps := fun hi => hull_sub (mem_getD hi)
    have e1 := hull_edge (ps := ps) (by omega) (i := j + 2) (by omega) (hin (i := 0) (by omega))
    have t1 := hull_turn h3 (i := j + 1) (by omega)
    have t2 := hull_turn h3 (i := j + 2) (by omega)
    have e2 := hull_edge (ps := ps) (by omega) (i := j + 3) (by omega) (hin (i := 0) (by omega))
    have t0 := hull_turn h3 (i := n - 1) (by omega)
    have g0 := fun i (hi : i < (hullF ps).length) => hull_edge (ps := ps) (by omega) (i := n - 1) (by omega) (hin hi)
    have g1 := fun i (hi : i < (hullF ps).length) => hull_edge (ps := ps) (by omega) (i := 0) (by omega) (hin hi)
    rw [hn] at t1 t2 e1 e2 t0
    rw [show (n - 1 + 1) % n = 0 by rw [show n - 1 + 1 = n by omega, Nat.mod_self], show (n - 1 + 2) % n = 1 by rw [show n - 1 + 2 = 1 + n by omega, Nat.add_mod_right, Nat.mod_eq_of_lt (by omega)]] at t0
    simp only [hn] at g0 g1
    have g0' := fun i hi => by have := g0 i hi; rwa [show (n - 1 + 1) % n = 0 by rw [show n - 1 + 1 = n by omega, Nat.mod_self]] at this
    have g1' := fun i hi => by have := g1 i hi; rwa [show (0 + 1) % n = 1 by rw [Nat.mod_eq_of_lt (by omega)]] at this
    rw [Nat.mod_eq_of_lt (show j + 1 + 1 < n by omega), Nat.mod_eq_of_lt (show j + 1 + 2 < n by omega)] at t1
    rw [Nat.mod_eq_of_lt (show j + 2 + 1 < n by omega)] at t2 e1
    rw [show (j + 2 + 2) % n = (j + 3 + 1) % n from rfl] at t2
    have a1 := g0' (j + 2) (by omega)
    have a2 := g1' (j + 2) (by omega)
    have b1 := g0' (j + 3) (by omega)
    have b2 := g1' (j + 3) (by omega)
    have hne : (hullF ps).getD (j + 2) (0, 0) ≠ (hullF ps).getD 0 (0, 0) := fun e => by
      have := (hull_least (ps := ps) (by have := List.length_pos_of_mem (hin (i := 0) (by omega)); omega)).2 (j + 2) (by omega) (by omega)
      rw [e] at this; exact this.irr
    have hnx : (hullF ps).getD (j + 3) (0, 0) ≠ (hullF ps).getD 0 (0, 0) := fun e => by
      have := (hull_least (ps := ps) (by have := List.length_pos_of_mem (hin (i := 0) (by omega)); omega)).2 (j + 3) (by omega) (by omega)
      rw [e] at this; exact this.irr
    rw [show j + 1 + 1 = j + 2 from rfl] at *
    rw [show j + 1 + 2 = j + 3 from rfl] at t1
    rw [show j + 2 + 1 = j + 3 from rfl] at *
    generalize (hullF ps).getD ((j + 3 + 1) % n) (0, 0) = Y at *
    generalize (hullF ps).getD (j + 3) (0, 0) = X at *
    generalize (hullF ps).getD (j + 2) (0, 0) = B at *
    generalize (hullF ps).getD (j + 1) (0, 0) = P at *
    generalize (hullF ps).getD (n - 1) (0, 0) = Z at *
    generalize (hullF ps).getD 1 (0, 0) = W at *
    generalize (hullF ps).getD 0 (0, 0) = A at *
    clear g0 g1 g0' g1' hin
    -- A first, P, B, X, Y in order; Z before A, W behind A
    have r1 := crP_rot B X A
    have r2 := crP_rot X A B
    apply Classical.byContradiction; intro hn2
    have h0 : crP A B X = 0 := by omega
    have hF : ∀ q, 0 ≤ crP Z A q → 0 ≤ crP A W q → q ≠ A → 0 < Ahd (W.1 - Z.1, W.2 - Z.2) A q := fun q i1 i2 hq => by
      have hA : Ahd (W.1 - Z.1, W.2 - Z.2) A q = crP Z A q + crP A W q := by unfold Ahd crP crs; grind
      rw [hA]
      apply Classical.byContradiction; intro hn
      have z1 : crP Z A q = 0 := by omega
      have z2 : crP A W q = 0 := by omega
      have l1 : (q.1 - A.1) * crP Z A W = (W.1 - A.1) * crP Z A q - (A.1 - Z.1) * crP A W q := by unfold crP crs; grind
      have l2 : (q.2 - A.2) * crP Z A W = (W.2 - A.2) * crP Z A q - (A.2 - Z.2) * crP A W q := by unfold crP crs; grind
      rw [z1, z2] at l1 l2
      simp only [Int.mul_zero, Int.sub_zero] at l1 l2
      have y1 := (Int.mul_eq_zero.1 l1).resolve_right (by omega)
      have y2 := (Int.mul_eq_zero.1 l2).resolve_right (by omega)
      exact hq (Prod.ext (by omega) (by omega))
    have fB := hF B a1 a2 hne
    have fX := hF X b1 b2 hnx
    obtain ⟨l1, l2⟩ := line_pts (d := (W.1 - Z.1, W.2 - Z.2)) (a := A) (x := X) (b := B) (by have := crP_flip A B X; omega)
    generalize Ahd (W.1 - Z.1, W.2 - Z.2) A B = FB at *
    generalize Ahd (W.1 - Z.1, W.2 - Z.2) A X = FX at *
    have k1 : FB * crP P B X = (FB - FX) * crP A P B := by unfold crP crs; grind
    have k2 : FB * crP B X Y = (FX - FB) * crP A B Y := by unfold crP crs; grind
    have k3 : FB * crP X Y A = FX * crP A B Y := by unfold crP crs; grind
    have n1 := Int.mul_pos fB t1
    have n2 := Int.mul_pos fB t2
    have n3 := mulnnH (Int.le_of_lt fB) e2
    have c1 : FX < FB := by
      apply Classical.byContradiction; intro hn
      have := Int.mul_nonpos_of_nonpos_of_nonneg (show FB - FX ≤ 0 by omega) (Int.le_of_lt ih)
      omega
    have c2 : crP A B Y < 0 := by
      apply Classical.byContradiction; intro hn
      have := Int.mul_nonpos_of_nonpos_of_nonneg (show FX - FB ≤ 0 by omega) (show 0 ≤ crP A B Y by omega)
      omega
    have := Int.mul_neg_of_pos_of_neg fX c2
    omega
end Go.Proofs.Ytomnkdlfmjdckaa.Am.Sp

set_option linter.unusedVariables false
set_option linter.unusedSimpArgs false
namespace Go.Proofs.Ytomnkdlfmjdckaa.Am.Sp
open Go
/-! What a hull contains, by triangles; the greatest distance of points -/
def Fan (h : List (Int × Int)) (p : Int × Int) (i : Nat) : Prop :=
  0 ≤ crP (h.getD 0 (0, 0)) (h.getD (i - 1) (0, 0)) p ∧ 0 ≤ crP (h.getD (i - 1) (0, 0)) (h.getD i (0, 0)) p ∧ 0 ≤ crP (h.getD i (0, 0)) (h.getD 0 (0, 0)) p
theorem fan_yes {ps : List (Int × Int)} {p : Int × Int} {i : Nat} (h2 : 2 ≤ i) (hi : i < (hullF ps).length) (hf : Fan (hullF ps) p i) : hasH (hullF ps) p.1 p.2 = true := by
  rw [hasH_3 (by omega)]
  refine hasL_all (fun j hj => ?_) (hullF ps).length 0 (by omega)
  have hin : ∀ {i}, i < (hullF ps).length → (hullF ps).getD i (0, 0) ∈ ps := fun hi => hull_sub (mem_getD hi)
  have g0 := hull_edge (ps := ps) (by omega) hj (hin (i := 0) (by omega))
  have g1 := hull_edge (ps := ps) (by omega) hj (hin (i := i - 1) (by omega))
  have g2 := hull_edge (ps := ps) (by omega) hj (hin (i := i) (by omega))
  have t := fan_left (ps := ps) (by omega) (j := i - 1) (by omega) (by omega)
  rw [show i - 1 + 1 = i by omega] at t
  obtain ⟨f1, f2, f3⟩ := hf
  generalize (hullF ps).getD ((j + 1) % (hullF ps).length) (0, 0) = V at *
  generalize (hullF ps).getD j (0, 0) = U at *
  generalize (hullF ps).getD i (0, 0) = C at *
  generalize (hullF ps).getD (i - 1) (0, 0) = B at *
  generalize (hullF ps).getD 0 (0, 0) = A at *
  show 0 ≤ crP U V p
  have e : crP A B C * crP U V p = crP U V A * crP B C p + crP U V B * crP C A p + crP U V C * crP A B p := by unfold crP crs; grind
  have n1 := mulnnH g0 f2
  have n2 := mulnnH g1 f3
  have n3 := mulnnH g2 f1
  apply Classical.byContradiction; intro hn
  have := Int.mul_neg_of_pos_of_neg t (show crP U V p < 0 by omega)
  omega
theorem hasL_get {h : List (Int × Int)} {x y : Int} : ∀ (k i : Nat), i + k = h.length → hasL h x y i = true → ∀ j, i ≤ j → j < h.length → 0 ≤ crs (h.getD j (0, 0)).1 (h.getD j (0, 0)).2 (h.getD ((j + 1) % h.length) (0, 0)).1 (h.getD ((j + 1) % h.length) (0, 0)).2 x y
  | 0, i, e, _, j, h1, h2 => by omega
  | k + 1, i, e, hf, j, h1, h2 => by
    rw [hasL, if_pos (by omega)] at hf
    split at hf
    · cases hf
    · rename_i c
      by_cases g : i = j
      · subst g; omega
      · exact hasL_get k (i + 1) (by omega) hf j (by omega) h2
theorem fan_no {h : List (Int × Int)} {p : Int × Int} (h3 : 2 < h.length) (hh : hasH h p.1 p.2 = true) : ∃ i, 2 ≤ i ∧ i < h.length ∧ Fan h p i := by
  rw [hasH_3 (by omega)] at hh
  have g := hasL_get h.length 0 (by omega) hh
  have hc : ∀ i, 2 ≤ i → i < h.length → (∃ k, 2 ≤ k ∧ k ≤ i ∧ Fan h p k) ∨ 0 < crP (h.getD 0 (0, 0)) (h.getD i (0, 0)) p := by
    intro i h2
    induction i with
    | zero => omega
    | succ i ih =>
      intro hi
      have e := g i (by omega) (by omega)
      rw [Nat.mod_eq_of_lt (by omega)] at e
      have prev : (∃ k, 2 ≤ k ∧ k ≤ i ∧ Fan h p k) ∨ 0 ≤ crP (h.getD 0 (0, 0)) (h.getD i (0, 0)) p := by
        by_cases c : 2 ≤ i
        · exact (ih c (by omega)).imp id Int.le_of_lt
        · have : i = 1 := by omega
          subst this
          have := g 0 (by omega) (by omega)
          rw [Nat.mod_eq_of_lt (by omega)] at this
          exact .inr this
      rcases prev with ⟨k, k1, k2, k3⟩ | q
      · exact .inl ⟨k, k1, by omega, k3⟩
      · by_cases c : 0 < crP (h.getD 0 (0, 0)) (h.getD (i + 1) (0, 0)) p
        · exact .inr c
        · refine .inl ⟨i + 1, h2, Nat.le_refl _, ?_, ?_, ?_⟩
          · exact q
          · exact e
          · have := crP_rot (h.getD (i + 1) (0, 0)) (h.getD 0 (0, 0)) p
            have f2 := crP_flip (h.getD 0 (0, 0)) p (h.getD (i + 1) (0, 0))
            omega
  have e := g (h.length - 1) (by omega) (by omega)
  rw [show h.length - 1 + 1 = h.length by omega, Nat.mod_self] at e
  rcases hc (h.length - 1) (by omega) (by omega) with ⟨k, k1, k2, k3⟩ | q
  · exact ⟨k, k1, by omega, k3⟩
  · exfalso
    have e' : 0 ≤ crP (h.getD (h.length - 1) (0, 0)) (h.getD 0 (0, 0)) p := e
    have := crP_rot (h.getD (h.length - 1) (0, 0)) (h.getD 0 (0, 0)) p
    have f2 := crP_flip (h.getD 0 (0, 0)) p (h.getD (h.length - 1) (0, 0))
    omega
/-- what is not negative at the corners is not negative at the points -/
theorem aff_all {ps : List (Int × Int)} {u v w : Int} (h1 : 1 ≤ ps.length) (hc : ∀ i, i < (hullF ps).length → 0 ≤ u * ((hullF ps).getD i (0, 0)).1 + v * ((hullF ps).getD i (0, 0)).2 + w) {q : Int × Int} (hq : q ∈ ps) : 0 ≤ u * q.1 + v * q.2 + w := by
  have hl := hull_len h1
  rcases Nat.lt_or_ge 2 (hullF ps).length with h3 | h3
  · obtain ⟨n, hn⟩ : ∃ n, (hullF ps).length = n := ⟨_, rfl⟩
    obtain ⟨m, hm, hl⟩ := least_at (fun i => u * ((hullF ps).getD i (0, 0)).1 + v * ((hullF ps).getD i (0, 0)).2 + w) n (by omega)
    have hi : (m + (n - 1)) % n < n := Nat.mod_lt _ (by omega)
    have t := hull_turn h3 (i := (m + (n - 1)) % n) (by omega)
    have e1 := hull_edge (ps := ps) (by omega) (i := (m + (n - 1)) % n) (by omega) hq
    have e2 := hull_edge (ps := ps) (by omega) (i := m) (by omega) hq
    rw [hn] at t e1 e2
    have m1 : ((m + (n - 1)) % n + 1) % n = m := by rw [Nat.mod_add_mod, show m + (n - 1) + 1 = m + n by omega, Nat.add_mod_right, Nat.mod_eq_of_lt hm]
    have m2 : ((m + (n - 1)) % n + 2) % n = (m + 1) % n := by rw [Nat.mod_add_mod, show m + (n - 1) + 2 = m + 1 + n by omega, Nat.add_mod_right]
    rw [m1, m2] at t
    rw [m1] at e1
    have l1 := hl _ hi
    have l2 := hl ((m + 1) % n) (Nat.mod_lt _ (by omega))
    have l0 := hc m (by omega)
    generalize (hullF ps).getD ((m + (n - 1)) % n) (0, 0) = U at *
    generalize (hullF ps).getD ((m + 1) % n) (0, 0) = V at *
    generalize (hullF ps).getD m (0, 0) = M at *
    clear hl hc
    have e : ((u * q.1 + v * q.2 + w) - (u * M.1 + v * M.2 + w)) * crP U M V = ((u * V.1 + v * V.2 + w) - (u * M.1 + v * M.2 + w)) * crP U M q + ((u * U.1 + v * U.2 + w) - (u * M.1 + v * M.2 + w)) * crP M V q := by unfold crP crs; grind
    generalize u * q.1 + v * q.2 + w = gq at *
    generalize u * M.1 + v * M.2 + w = gM at *
    generalize u * V.1 + v * V.2 + w = gV at *
    generalize u * U.1 + v * U.2 + w = gU at *
    have n1 := mulnnH (show 0 ≤ gV - gM by omega) e1
    have n2 := mulnnH (show 0 ≤ gU - gM by omega) e2
    apply Classical.byContradiction
    intro hn
    have := Int.mul_neg_of_neg_of_pos (show gq - gM < 0 by omega) t
    omega
  · rcases Nat.lt_or_ge 1 (hullF ps).length with g | g
    · have e : (hullF ps).length = 2 := by omega
      obtain ⟨k1, k2, k3, k4⟩ := hull_two e hq
      have ga := hc 0 (by omega)
      have gb := hc 1 (by omega)
      generalize (hullF ps).getD 0 (0, 0) = a at *
      generalize (hullF ps).getD 1 (0, 0) = b at *
      clear hc
      have e1 : (b.1 - a.1) * (u * q.1 + v * q.2 + w) = (b.1 - q.1) * (u * a.1 + v * a.2 + w) + (q.1 - a.1) * (u * b.1 + v * b.2 + w) + v * crP a b q := by unfold crP crs; grind
      have e2 : (b.2 - a.2) * (u * q.1 + v * q.2 + w) = (b.2 - q.2) * (u * a.1 + v * a.2 + w) + (q.2 - a.2) * (u * b.1 + v * b.2 + w) - u * crP a b q := by unfold crP crs; grind
      rw [k2, Int.mul_zero] at e1 e2
      rcases k3 with rfl | k3
      · exact ga
      rcases k4 with rfl | k4
      · exact gb
      generalize u * q.1 + v * q.2 + w = gq at *
      generalize u * a.1 + v * a.2 + w = gA at *
      generalize u * b.1 + v * b.2 + w = gB at *
      unfold lxP at k1 k3 k4
      by_cases c : a.1 < b.1
      · have n1 := mulnnH (show 0 ≤ b.1 - q.1 by omega) ga
        have n2 := mulnnH (show 0 ≤ q.1 - a.1 by omega) gb
        apply Classical.byContradiction; intro hn
        have := Int.mul_neg_of_pos_of_neg (show 0 < b.1 - a.1 by omega) (show gq < 0 by omega)
        omega
      · have n1 := mulnnH (show 0 ≤ b.2 - q.2 by omega) ga
        have n2 := mulnnH (show 0 ≤ q.2 - a.2 by omega) gb
        apply Classical.byContradiction; intro hn
        have := Int.mul_neg_of_pos_of_neg (show 0 < b.2 - a.2 by omega) (show gq < 0 by omega)
        omega
    · have e : (hullF ps).length = 1 := by omega
      rw [hull_one e hq]; exact hc 0 (by omega)
/-- of each point: some corner is as far -/
theorem far_corner {ps : List (Int × Int)} (h1 : 1 ≤ ps.length) (p : Int × Int) {q : Int × Int} (hq : q ∈ ps) : ∃ j, j < (hullF ps).length ∧ dsq p q ≤ dsq p ((hullF ps).getD j (0, 0)) := by
  apply Classical.byContradiction; intro hn
  have hc : ∀ i, i < (hullF ps).length → 0 ≤ -(q.1 - p.1) * ((hullF ps).getD i (0, 0)).1 + -(q.2 - p.2) * ((hullF ps).getD i (0, 0)).2 + ((q.1 - p.1) * q.1 + (q.2 - p.2) * q.2 - 1) := by
    intro i hi
    apply Classical.byContradiction; intro hg
    refine hn ⟨i, hi, ?_⟩
    generalize (hullF ps).getD i (0, 0) = x at *
    have e : dsq p x - dsq p q = (x.1 - q.1) * (x.1 - q.1) + (x.2 - q.2) * (x.2 - q.2) + 2 * ((q.1 - p.1) * x.1 + (q.2 - p.2) * x.2 - ((q.1 - p.1) * q.1 + (q.2 - p.2) * q.2)) := by unfold dsq dot; grind
    have s1 := sqr_nonneg (x.1 - q.1)
    have s2 := sqr_nonneg (x.2 - q.2)
    rw [Int.neg_mul, Int.neg_mul] at hg
    omega
  have := aff_all h1 hc hq
  rw [Int.neg_mul, Int.neg_mul] at this
  omega
theorem dsq_comm (p q : Int × Int) : dsq p q = dsq q p := by unfold dsq dot; grind
/-- the document's greatest distance -/
def faI (ps : List (Int × Int)) (u : Nat) (m : Int) : Nat → Int
  | 0 => m
  | k + 1 => mx (faI ps u m k) (dsq (lmP (ps.getD u (0, 0))) (lmP (ps.getD k (0, 0))))
def faO (ps : List (Int × Int)) : Nat → Int
  | 0 => 0
  | u + 1 => faI ps u (faO ps u) ps.length
theorem mx_one (a b : Int) : mx a b = a ∨ mx a b = b := by unfold mx; split <;> simp
theorem mx_up (a b : Int) : a ≤ mx a b ∧ b ≤ mx a b := by unfold mx; split <;> omega
theorem faI_spec (ps : List (Int × Int)) (u : Nat) (m : Int) : ∀ k, m ≤ faI ps u m k ∧ (∀ j, j < k → dsq (lmP (ps.getD u (0, 0))) (lmP (ps.getD j (0, 0))) ≤ faI ps u m k) ∧ (faI ps u m k = m ∨ ∃ j, j < k ∧ faI ps u m k = dsq (lmP (ps.getD u (0, 0))) (lmP (ps.getD j (0, 0))))
  | 0 => ⟨Int.le_refl _, fun j h => by omega, .inl rfl⟩
  | k + 1 => by
    obtain ⟨i1, i2, i3⟩ := faI_spec ps u m k
    have b := mx_up (faI ps u m k) (dsq (lmP (ps.getD u (0, 0))) (lmP (ps.getD k (0, 0))))
    rw [faI]
    refine ⟨by omega, fun j hj => ?_, ?_⟩
    · by_cases c : j < k
      · have := i2 j c; omega
      · rw [show j = k by omega]; omega
    · rcases mx_one (faI ps u m k) (dsq (lmP (ps.getD u (0, 0))) (lmP (ps.getD k (0, 0)))) with e | e
      · rw [e]; exact i3.imp id (fun ⟨j, h1, h2⟩ => ⟨j, by omega, h2⟩)
      · exact .inr ⟨k, by omega, e⟩
theorem faO_spec (ps : List (Int × Int)) : ∀ u, 0 ≤ faO ps u ∧ (∀ i, i < u → ∀ j, j < ps.length → dsq (lmP (ps.getD i (0, 0))) (lmP (ps.getD j (0, 0))) ≤ faO ps u) ∧ (faO ps u = 0 ∨ ∃ i j, i < u ∧ j < ps.length ∧ faO ps u = dsq (lmP (ps.getD i (0, 0))) (lmP (ps.getD j (0, 0))))
  | 0 => ⟨Int.le_refl _, fun i h => by omega, .inl rfl⟩
  | u + 1 => by
    obtain ⟨i1, i2, i3⟩ := faO_spec ps u
    obtain ⟨j1, j2, j3⟩ := faI_spec ps u (faO ps u) ps.length
    rw [faO]
    refine ⟨by omega, fun i hi j hj => ?_, ?_⟩
    · by_cases c : i < u
      · have := i2 i c j hj; omega
      · rw [show i = u by omega]; exact j2 j hj
    · rcases j3 with e | ⟨j, h1, h2⟩
      · rw [e]; exact i3.imp id (fun ⟨i, j, h1, h2, h3⟩ => ⟨i, j, by omega, h2, h3⟩)
      · exact .inr ⟨u, j, by omega, h1, h2⟩
theorem farI_spec (h : List (Int × Int)) (i : Nat) : ∀ (d k : Nat) (m : Int), k + d = i → m ≤ farI h i k m ∧ (∀ j, k ≤ j → j < i → dsq (h.getD i (0, 0)) (h.getD j (0, 0)) ≤ farI h i k m) ∧ (farI h i k m = m ∨ ∃ j, j < i ∧ farI h i k m = dsq (h.getD i (0, 0)) (h.getD j (0, 0)))
  | 0, k, m, e => by rw [farI_end (by omega)]; exact ⟨Int.le_refl _, fun j h1 h2 => by omega, .inl rfl⟩
  | d + 1, k, m, e => by
    rw [← farI_go (by omega)]
    obtain ⟨i1, i2, i3⟩ := farI_spec h i d (k + 1) (mx m (dot (h.getD i (0, 0)).1 (h.getD i (0, 0)).2 (h.getD k (0, 0)).1 (h.getD k (0, 0)).2 (h.getD k (0, 0)).1 (h.getD k (0, 0)).2)) (by omega)
    have b := mx_up m (dsq (h.getD i (0, 0)) (h.getD k (0, 0)))
    change m ≤ mx m (dot _ _ _ _ _ _) ∧ _ ≤ mx m (dot _ _ _ _ _ _) at b
    refine ⟨by omega, fun j h1 h2 => ?_, ?_⟩
    · by_cases c : k + 1 ≤ j
      · exact i2 j c h2
      · rw [show j = k by omega]; omega
    · rcases i3 with e2 | ⟨j, h1, h2⟩
      · rw [e2]
        rcases mx_one m (dot (h.getD i (0, 0)).1 (h.getD i (0, 0)).2 (h.getD k (0, 0)).1 (h.getD k (0, 0)).2 (h.getD k (0, 0)).1 (h.getD k (0, 0)).2) with e3 | e3
        · exact .inl e3
        · exact .inr ⟨k, by omega, e3⟩
      · exact .inr ⟨j, h1, h2⟩
theorem farF_spec (h : List (Int × Int)) : ∀ (d i : Nat) (m : Int), i + d = h.length → m ≤ farF h i m ∧ (∀ u, i ≤ u → u < h.length → ∀ j, j < u → dsq (h.getD u (0, 0)) (h.getD j (0, 0)) ≤ farF h i m) ∧ (farF h i m = m ∨ ∃ u j, u < h.length ∧ j < u ∧ farF h i m = dsq (h.getD u (0, 0)) (h.getD j (0, 0)))
  | 0, i, m, e => by rw [farF_end (by omega)]; exact ⟨Int.le_refl _, fun u h1 h2 => by omega, .inl rfl⟩
  | d + 1, i, m, e => by
    rw [← farF_go (by omega)]
    obtain ⟨i1, i2, i3⟩ := farF_spec h d (i + 1) (farI h i 0 m) (by omega)
    obtain ⟨j1, j2, j3⟩ := farI_spec h i i 0 m (by omega)
    refine ⟨by omega, fun u h1 h2 j hj => ?_, ?_⟩
    · by_cases c : i + 1 ≤ u
      · exact i2 u c h2 j hj
      · have : u = i := by omega
        subst this
        have := j2 j (by omega) hj; omega
    · rcases i3 with e2 | ⟨u, j, h1, h2, h3⟩
      · rw [e2]; exact j3.imp id (fun ⟨j, k1, k2⟩ => ⟨i, j, by omega, k1, k2⟩)
      · exact .inr ⟨u, j, h1, h2, h3⟩
theorem far_same {ps : List (Int × Int)} (h1 : 1 ≤ ps.length) : farF (hullF (ps.map lmP)) 0 0 = faO ps ps.length := by
  obtain ⟨a1, a2, a3⟩ := farF_spec (hullF (ps.map lmP)) _ 0 0 (by rw [Nat.zero_add])
  obtain ⟨b1, b2, b3⟩ := faO_spec ps ps.length
  have hl : (ps.map lmP).length = ps.length := List.length_map _
  have mem : ∀ {q}, q ∈ ps.map lmP → ∃ i, i < ps.length ∧ lmP (ps.getD i (0, 0)) = q := fun {q} hq => by
    obtain ⟨z, hz, e⟩ := List.mem_map.1 hq
    obtain ⟨i, hi, e2⟩ := List.mem_iff_getElem.1 hz
    exact ⟨i, hi, by rw [getD_lt hi, e2, e]⟩
  have inm : ∀ {i}, i < ps.length → lmP (ps.getD i (0, 0)) ∈ ps.map lmP := fun hi => List.mem_map.2 ⟨_, mem_getD hi, rfl⟩
  apply Int.le_antisymm
  · rcases a3 with e | ⟨u, j, k1, k2, k3⟩
    · omega
    · obtain ⟨i, hi, ei⟩ := mem (hull_sub (mem_getD k1))
      obtain ⟨i2, hi2, ei2⟩ := mem (hull_sub (mem_getD (show j < (hullF (ps.map lmP)).length by omega)))
      rw [k3, ← ei, ← ei2]
      exact b2 i hi i2 hi2
  · rcases b3 with e | ⟨i, j, k1, k2, k3⟩
    · omega
    · rw [k3]
      obtain ⟨x, hx, ex⟩ := far_corner (by omega) (lmP (ps.getD i (0, 0))) (inm k2)
      obtain ⟨y, hy, ey⟩ := far_corner (by omega) ((hullF (ps.map lmP)).getD x (0, 0)) (inm k1)
      rw [dsq_comm (lmP _) ((hullF _).getD x _)] at ex
      refine Int.le_trans (Int.le_trans ex ey) ?_
      rcases Nat.lt_trichotomy x y with c | c | c
      · rw [dsq_comm]; exact a2 y (by omega) hy x c
      · subst c; rw [dsq_self]; exact a1
      · exact a2 x (by omega) hx y c
end Go.Proofs.Ytomnkdlfmjdckaa.Am.Sp

set_option linter.unusedVariables false
set_option linter.unusedSimpArgs false
namespace Go.Proofs.Ytomnkdlfmjdckaa.Am.Sp
open Go
/-! What the walks of the document's hull need -/
theorem ddN_same {ps : List (Int × Int)} {i : Nat} (h : ((ddN ps i).any (eqTo (lim 1048576 (ps.getD i (0, 0)).1, lim 1048576 (ps.getD i (0, 0)).2))) = true) : ddN ps (i + 1) = ddN ps i := by
  rw [ddN]; exact if_pos h
theorem ddN_new {ps : List (Int × Int)} {i : Nat} (h : ((ddN ps i).any (eqTo (lim 1048576 (ps.getD i (0, 0)).1, lim 1048576 (ps.getD i (0, 0)).2))) = false) : ddN ps (i + 1) = ddN ps i ++ [lmP (ps.getD i (0, 0))] := by
  rw [ddN]; exact if_neg (by unfold lmP; rw [h]; decide)
theorem ddN_newlen {ps : List (Int × Int)} {i : Nat} (h : ((ddN ps i).any (eqTo (lim 1048576 (ps.getD i (0, 0)).1, lim 1048576 (ps.getD i (0, 0)).2))) = false) : (ddN ps (i + 1)).length = (ddN ps i).length + 1 := by
  rw [ddN_new h]; simp
theorem ddN_cells {ps : List (Int × Int)} {i : Nat} {l : List Value} (h : ((ddN ps i).any (eqTo (lim 1048576 (ps.getD i (0, 0)).1, lim 1048576 (ps.getD i (0, 0)).2))) = false) (hl : ptc (lmP (ps.getD i (0, 0))) = l) : (ddN ps i).flatMap ptc ++ l = (ddN ps (i + 1)).flatMap ptc := by
  rw [ddN_new h, List.flatMap_append, ← hl]; simp
theorem ddN_one {ps : List (Int × Int)} {l : List Value} (hl : ptc (lmP (ps.getD 0 (0, 0))) = l) : (ddN ps 1).flatMap ptc = l := by
  rw [ddN, if_neg (by simp [ddN]), ← hl]; simp [ddN]
theorem ddN_1 (ps : List (Int × Int)) : (ddN ps 1).length = 1 := by rw [ddN, if_neg (by simp [ddN])]; simp [ddN]
theorem ddN_few (ps : List (Int × Int)) : Few 1048576 (ddN ps ps.length) := few_sub (by decide) (few_lim ps) (fun q hq => ddN_all.1 hq)
theorem hull_min {ps pts : List (Int × Int)} (hp : ∀ q, q ∈ pts ↔ q ∈ ps) (h1 : 1 ≤ ps.length) (h2 : 1 ≤ pts.length) : mnP pts (pts.length - 1) = (hullF ps).getD 0 (0, 0) := by
  obtain ⟨⟨j, hj, e⟩, h⟩ := mnP_spec pts (pts.length - 1)
  have hm : mnP pts (pts.length - 1) ∈ ps := (hp _).1 (e ▸ mem_getD (by omega))
  rcases (hull_least h1).1 _ hm with k | k
  · exact k
  · exfalso
    have h0 : (hullF ps).getD 0 (0, 0) ∈ pts := (hp _).2 (hull_sub (mem_getD (by have := (hull_len h1).1; omega)))
    obtain ⟨i, hi, ei⟩ := List.mem_iff_getElem.1 h0
    have := h i (by omega)
    rw [getD_lt hi, ei] at this
    rw [(befP_iff _ _).2 k] at this
    cases this
section
variable {pts : List (Int × Int)} {ax ay x y : Int} {k : Nat}
theorem nxJ_y1 (hA : (x, y) = nxJ pts (ax, ay) k) (e1 : ((x == ax) && ((y == ay) && true)) = true) : ((pts.getD k (0, 0)).1, (pts.getD k (0, 0)).2) = nxJ pts (ax, ay) (k + 1) := by
  rw [nxJ, ← hA]; exact (if_pos (by unfold stJ; rw [e1, Bool.true_or])).symm
theorem nxJ_y2 (hA : (x, y) = nxJ pts (ax, ay) k) (e2 : decide (crs ax ay x y (pts.getD k (0, 0)).1 (pts.getD k (0, 0)).2 < 0) = true) : ((pts.getD k (0, 0)).1, (pts.getD k (0, 0)).2) = nxJ pts (ax, ay) (k + 1) := by
  rw [nxJ, ← hA]; exact (if_pos ((stJ_iff (ax, ay) (x, y) (pts.getD k (0, 0))).2 (.inr (.inl (show crP (ax, ay) (x, y) (pts.getD k (0, 0)) < 0 from of_decide_eq_true e2))))).symm
theorem nxJ_y3 (hA : (x, y) = nxJ pts (ax, ay) k) (e3 : (crs ax ay x y (pts.getD k (0, 0)).1 (pts.getD k (0, 0)).2 == 0) = true) (e4 : decide (dot ax ay (pts.getD k (0, 0)).1 (pts.getD k (0, 0)).2 (pts.getD k (0, 0)).1 (pts.getD k (0, 0)).2 > dot ax ay x y x y) = true) : ((pts.getD k (0, 0)).1, (pts.getD k (0, 0)).2) = nxJ pts (ax, ay) (k + 1) := by
  rw [nxJ, ← hA]; exact (if_pos ((stJ_iff (ax, ay) (x, y) (pts.getD k (0, 0))).2 (.inr (.inr ⟨show crP (ax, ay) (x, y) (pts.getD k (0, 0)) = 0 from beq_iff_eq.1 e3, show dsq (ax, ay) (x, y) < dsq (ax, ay) (pts.getD k (0, 0)) from of_decide_eq_true e4⟩)))).symm
theorem nxJ_n1 (hA : (x, y) = nxJ pts (ax, ay) k) (e1 : ((x == ax) && ((y == ay) && true)) = false) (e2 : decide (crs ax ay x y (pts.getD k (0, 0)).1 (pts.getD k (0, 0)).2 < 0) = false) (e3 : (crs ax ay x y (pts.getD k (0, 0)).1 (pts.getD k (0, 0)).2 == 0) = false) : (x, y) = nxJ pts (ax, ay) (k + 1) := by
  rw [nxJ, ← hA, if_neg]
  intro h
  rcases (stJ_iff _ _ _).1 h with q | q | ⟨q, _⟩
  · exact eqb_ne (a := (x, y)) (b := (ax, ay)) e1 q
  · exact of_decide_eq_false e2 q
  · exact (beq_eq_false_iff_ne.1 e3) q
theorem nxJ_n2 (hA : (x, y) = nxJ pts (ax, ay) k) (e1 : ((x == ax) && ((y == ay) && true)) = false) (e2 : decide (crs ax ay x y (pts.getD k (0, 0)).1 (pts.getD k (0, 0)).2 < 0) = false) (e4 : decide (dot ax ay (pts.getD k (0, 0)).1 (pts.getD k (0, 0)).2 (pts.getD k (0, 0)).1 (pts.getD k (0, 0)).2 > dot ax ay x y x y) = false) : (x, y) = nxJ pts (ax, ay) (k + 1) := by
  rw [nxJ, ← hA, if_neg]
  intro h
  rcases (stJ_iff _ _ _).1 h with q | q | ⟨_, q⟩
  · exact eqb_ne (a := (x, y)) (b := (ax, ay)) e1 q
  · exact of_decide_eq_false e2 q
  · exact of_decide_eq_false e4 q
end
theorem ring_end {h : List (Int × Int)} {i : Nat} {x y : Int} (hl : ∀ j, 0 < j → j < h.length → lxP (h.getD 0 (0, 0)) (h.getD j (0, 0))) (hi : i + 1 ≤ h.length) (hxy : (x, y) = h.getD ((i + 1) % h.length) (0, 0)) (e : ((x == (h.getD 0 (0, 0)).1) && ((y == (h.getD 0 (0, 0)).2) && true)) = true) : i + 1 = h.length := by
  apply Classical.byContradiction; intro hn
  rw [Nat.mod_eq_of_lt (by omega)] at hxy
  have k := hl (i + 1) (by omega) (by omega)
  rw [← hxy] at k
  have := (eqb_iff (x, y) (h.getD 0 (0, 0))).1 e
  rw [this] at k
  exact k.irr
theorem ring_on {h : List (Int × Int)} {i : Nat} {x y : Int} (hi : i + 1 ≤ h.length) (hxy : (x, y) = h.getD ((i + 1) % h.length) (0, 0)) (e : ((x == (h.getD 0 (0, 0)).1) && ((y == (h.getD 0 (0, 0)).2) && true)) = false) : i + 1 < h.length := by
  apply Classical.byContradiction; intro hn
  have e2 : i + 1 = h.length := by omega
  rw [e2, Nat.mod_self] at hxy
  exact eqb_ne (a := (x, y)) (b := h.getD 0 (0, 0)) e hxy
theorem one_tk {h : List (Int × Int)} {l : List Value} (hn : 1 ≤ h.length) (hl : ptc (h.getD 0 (0, 0)) = l) : (h.take (0 + 1)).flatMap ptc = l := by
  rw [take_one_more (by omega), ← hl]; simp
theorem next_take {h : List (Int × Int)} {i : Nat} {l : List Value} {x y : Int} (hn : i + 1 < h.length) (hxy : (x, y) = h.getD ((i + 1) % h.length) (0, 0)) (hl : ptc (x, y) = l) : (h.take (i + 1)).flatMap ptc ++ l = (h.take (i + 1 + 1)).flatMap ptc := by
  rw [Nat.mod_eq_of_lt hn] at hxy
  rw [take_one_more hn, ← hxy, ← hl]; simp
theorem take_0 (h : List (Int × Int)) (i : Nat) : (h.take (i + 1)).getD 0 (0, 0) = h.getD 0 (0, 0) := by cases h <;> rfl
theorem take_full {h : List (Int × Int)} {i : Nat} (hn : i + 1 = h.length) : h.take (i + 1) = h := by rw [hn, List.take_length]
theorem onb_one (a b x y : Int) : onb a b a b x y = ((a == x) && ((b == y) && true)) := by
  rw [Bool.eq_iff_iff, Bool.and_true, Bool.and_eq_true, beq_iff_eq, beq_iff_eq]
  unfold onb dot crs
  simp
  constructor
  · intro h; obtain ⟨h1, h2⟩ := h
    have e1 := sqr_nonneg (a - x)
    have e2 := sqr_nonneg (b - y)
    have z1 : (a - x) * (a - x) = 0 := by omega
    have z2 : (b - y) * (b - y) = 0 := by omega
    have y1 : a - x = 0 := by rcases Int.mul_eq_zero.1 z1 with k | k <;> exact k
    have y2 : b - y = 0 := by rcases Int.mul_eq_zero.1 z2 with k | k <;> exact k
    omega
  · rintro ⟨rfl, rfl⟩; simp; rfl
theorem has_short {h : List (Int × Int)} {x y : Int} (h1 : 1 ≤ h.length) (h3 : h.length < 3) : onb (h.getD 0 (0, 0)).1 (h.getD 0 (0, 0)).2 (h.getD (h.length - 1) (0, 0)).1 (h.getD (h.length - 1) (0, 0)).2 x y = hasH h x y := by
  rcases Nat.lt_or_ge 1 h.length with c | c
  · rw [hasH_2 (by omega), show h.length - 1 = 1 by omega]
  · rw [hasH_1 (by omega), show h.length - 1 = 0 by omega, onb_one]
section
variable {h : List (Int × Int)} {x y : Int} {i : Nat}
theorem fan_t (e1 : decide (crs (h.getD 0 (0, 0)).1 (h.getD 0 (0, 0)).2 (h.getD (i - 1) (0, 0)).1 (h.getD (i - 1) (0, 0)).2 x y ≥ 0) = true) (e2 : decide (crs (h.getD (i - 1) (0, 0)).1 (h.getD (i - 1) (0, 0)).2 (h.getD i (0, 0)).1 (h.getD i (0, 0)).2 x y ≥ 0) = true) (e3 : decide (crs (h.getD i (0, 0)).1 (h.getD i (0, 0)).2 (h.getD 0 (0, 0)).1 (h.getD 0 (0, 0)).2 x y ≥ 0) = true) : Fan h (x, y) i :=
  ⟨of_decide_eq_true e1, of_decide_eq_true e2, of_decide_eq_true e3⟩
theorem fan_f1 (e1 : decide (crs (h.getD 0 (0, 0)).1 (h.getD 0 (0, 0)).2 (h.getD (i - 1) (0, 0)).1 (h.getD (i - 1) (0, 0)).2 x y ≥ 0) = false) : ¬ Fan h (x, y) i := fun k => of_decide_eq_false e1 k.1
theorem fan_f2 (e2 : decide (crs (h.getD (i - 1) (0, 0)).1 (h.getD (i - 1) (0, 0)).2 (h.getD i (0, 0)).1 (h.getD i (0, 0)).2 x y ≥ 0) = false) : ¬ Fan h (x, y) i := fun k => of_decide_eq_false e2 k.2.1
theorem fan_f3 (e3 : decide (crs (h.getD i (0, 0)).1 (h.getD i (0, 0)).2 (h.getD 0 (0, 0)).1 (h.getD 0 (0, 0)).2 x y ≥ 0) = false) : ¬ Fan h (x, y) i := fun k => of_decide_eq_false e3 k.2.2
theorem fan_step (hn : ∀ j, 2 ≤ j → j < i → ¬ Fan h (x, y) j) (hi : ¬ Fan h (x, y) i) : ∀ j, 2 ≤ j → j < i + 1 → ¬ Fan h (x, y) j := fun j h2 hj => by
  by_cases c : j < i
  · exact hn j h2 c
  · rw [show j = i by omega]; exact hi
theorem fan_end (hn : ∀ j, 2 ≤ j → j < i → ¬ Fan h (x, y) j) (h3 : 2 < h.length) (hi : ¬ i < h.length) : hasH h x y = false := by
  rcases Bool.eq_false_or_eq_true (hasH h x y) with k | k
  · obtain ⟨j, j2, j3, j4⟩ := fan_no (p := (x, y)) h3 k
    exact (hn j j2 (by omega) j4).elim
  · exact k
end
theorem fan_has {ps h : List (Int × Int)} {x y : Int} {i : Nat} (hh : hullF ps = h) (h2 : 2 ≤ i) (hi : i < h.length) (hf : Fan h (x, y) i) : hasH h x y = true := by
  subst hh; exact fan_yes (p := (x, y)) h2 hi hf
/-- the document's greatest distance, step by step -/
theorem faI_go {ps : List (Int × Int)} {u k : Nat} {m m2 : Int} (h : m2 = faI ps u m k) : mx m2 (dot (lim 1048576 (ps.getD u (0, 0)).1) (lim 1048576 (ps.getD u (0, 0)).2) (lim 1048576 (ps.getD k (0, 0)).1) (lim 1048576 (ps.getD k (0, 0)).2) (lim 1048576 (ps.getD k (0, 0)).1) (lim 1048576 (ps.getD k (0, 0)).2)) = faI ps u m (k + 1) := by
  rw [h]; rfl
theorem faO_go {ps : List (Int × Int)} {u k : Nat} {m m2 : Int} (h : m = faO ps u) (h2 : m2 = faI ps u m k) (hk : k = ps.length) : m2 = faO ps (u + 1) := by
  rw [h2, hk, h]; rfl
end Go.Proofs.Ytomnkdlfmjdckaa.Am.Sp

