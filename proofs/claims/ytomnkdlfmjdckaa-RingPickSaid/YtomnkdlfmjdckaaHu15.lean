import Derived.Test.YtomnkdlfmjdckaaHu13
set_option linter.unusedVariables false
set_option linter.unusedSimpArgs false
namespace Go.Proofs.Ytomnkdlfmjdckaa.Am.Sp
open Go
/-! The document's lines of sight -/
def sdf (p q : Int × Int) (s : Int) (x : Int × Int) : Bool := decide (crP p q x * s < 0)
def okS (h : List (Int × Int)) (p : Int × Int) (s : Int) (q : Int × Int) : Bool := !(h.any (sdf p q s))
def fsS (h : List (Int × Int)) (p : Int × Int) (s : Int) (k : Nat) : List (Int × Int) := (h.take k).filter (okS h p s)
theorem fsS_0 (h p s) : fsS h p s 0 = [] := rfl
theorem fsS_no {h : List (Int × Int)} {p : Int × Int} {s : Int} {k : Nat} (hk : k < h.length) (e : (!(h.any (sdf p ((h.getD k (0, 0)).1, (h.getD k (0, 0)).2) s))) = false) : fsS h p s (k + 1) = fsS h p s k := by
  have e' : okS h p s (h.getD k (0, 0)) = false := e
  rw [fsS, take_one_more hk, List.filter_append, List.filter_cons, if_neg (by rw [e']; decide), List.filter_nil, List.append_nil, fsS]
theorem fsS_yes {h : List (Int × Int)} {p : Int × Int} {s : Int} {k : Nat} (hk : k < h.length) (e : (!(h.any (sdf p ((h.getD k (0, 0)).1, (h.getD k (0, 0)).2) s))) = true) : fsS h p s (k + 1) = fsS h p s k ++ [h.getD k (0, 0)] := by
  have e' : okS h p s (h.getD k (0, 0)) = true := e
  rw [fsS, take_one_more hk, List.filter_append, List.filter_cons, if_pos e', List.filter_nil, fsS]
theorem fsS_len {h : List (Int × Int)} {p : Int × Int} {s : Int} {k : Nat} (hk : k < h.length) (e : (!(h.any (sdf p ((h.getD k (0, 0)).1, (h.getD k (0, 0)).2) s))) = true) : (fsS h p s (k + 1)).length = (fsS h p s k).length + 1 := by rw [fsS_yes hk e]; simp
theorem fsS_cells {h : List (Int × Int)} {p : Int × Int} {s : Int} {k : Nat} {l : List Value} (hk : k < h.length) (e : (!(h.any (sdf p ((h.getD k (0, 0)).1, (h.getD k (0, 0)).2) s))) = true) (hl : ptc (h.getD k (0, 0)) = l) : (fsS h p s k).flatMap ptc ++ l = (fsS h p s (k + 1)).flatMap ptc := by
  rw [fsS_yes hk e, List.flatMap_append, ← hl]; simp
theorem fsS_first {h : List (Int × Int)} {p : Int × Int} {s : Int} {k : Nat} {l : List Value} (hk : k < h.length) (e : (!(h.any (sdf p ((h.getD k (0, 0)).1, (h.getD k (0, 0)).2) s))) = true) (hz : fsS h p s k = []) (hl : ptc (h.getD k (0, 0)) = l) : (fsS h p s (k + 1)).flatMap ptc = l := by
  rw [fsS_yes hk e, hz, ← hl]; simp
theorem fsS_le (h p s k) : (fsS h p s k).length ≤ h.length := Nat.le_trans (List.length_filter_le _ _) (by rw [List.length_take]; exact Nat.min_le_right _ _)
theorem fsS_all (h p s) : fsS h p s h.length = h.filter (okS h p s) := by rw [fsS, List.take_length]
def mnD (p : Int × Int) (l : List (Int × Int)) : Nat → Int × Int
  | 0 => l.getD 0 (0, 0)
  | i + 1 => if decide (dsq p (l.getD (i + 1) (0, 0)) - dsq p (mnD p l i) < 0) = true then l.getD (i + 1) (0, 0) else mnD p l i
theorem mnD_y {x y : Int} {l : List (Int × Int)} {i : Nat} {a b : Int} (ha : (a, b) = mnD (x, y) l i) (h : decide (dot x y (l.getD (i + 1) (0, 0)).1 (l.getD (i + 1) (0, 0)).2 (l.getD (i + 1) (0, 0)).1 (l.getD (i + 1) (0, 0)).2 - dot x y a b a b < 0) = true) : ((l.getD (i + 1) (0, 0)).1, (l.getD (i + 1) (0, 0)).2) = mnD (x, y) l (i + 1) := by
  rw [mnD, ← ha]; exact (if_pos h).symm
theorem mnD_n {x y : Int} {l : List (Int × Int)} {i : Nat} {a b : Int} (ha : (a, b) = mnD (x, y) l i) (h : decide (dot x y (l.getD (i + 1) (0, 0)).1 (l.getD (i + 1) (0, 0)).2 (l.getD (i + 1) (0, 0)).1 (l.getD (i + 1) (0, 0)).2 - dot x y a b a b < 0) = false) : (a, b) = mnD (x, y) l (i + 1) := by
  rw [mnD, ← ha]; exact (if_neg (fun q => (of_decide_eq_false h) (of_decide_eq_true q))).symm
theorem mnD_spec (p : Int × Int) (l : List (Int × Int)) : ∀ i, (∃ j, j ≤ i ∧ mnD p l i = l.getD j (0, 0)) ∧ ∀ j, j ≤ i → dsq p (mnD p l i) ≤ dsq p (l.getD j (0, 0))
  | 0 => ⟨⟨0, Nat.le_refl 0, rfl⟩, fun j hj => by rw [show j = 0 by omega, mnD]; exact Int.le_refl _⟩
  | i + 1 => by
    obtain ⟨⟨j, hj, e⟩, h⟩ := mnD_spec p l i
    rw [mnD]
    split
    · rename_i c
      have c := of_decide_eq_true c
      refine ⟨⟨i + 1, Nat.le_refl _, rfl⟩, fun j hj => ?_⟩
      by_cases g : j ≤ i
      · have := h j g; omega
      · rw [show j = i + 1 by omega]; exact Int.le_refl _
    · rename_i c
      have c : ¬ (dsq p (l.getD (i + 1) (0, 0)) - dsq p (mnD p l i) < 0) := fun q => c (decide_eq_true q)
      refine ⟨⟨j, by omega, e⟩, fun j hj => ?_⟩
      by_cases g : j ≤ i
      · exact h j g
      · rw [show j = i + 1 by omega]; omega
/-- from a point outside, all corners lie on one side -/
theorem dir_ex {ps : List (Int × Int)} {p : Int × Int} (h1 : 1 ≤ ps.length) (hx : hasH (hullF ps) p.1 p.2 = false) : ∃ d, ∀ q ∈ hullF ps, 0 < Ahd d p q := by
  have hl := hull_len h1
  have at_ : ∀ {q}, q ∈ hullF ps → ∃ i, i < (hullF ps).length ∧ (hullF ps).getD i (0, 0) = q := fun {q} hq => by
    obtain ⟨i, hi, e⟩ := List.mem_iff_getElem.1 hq
    exact ⟨i, hi, by rw [getD_lt hi, e]⟩
  have sq2 : ∀ a b : Int, a * a + b * b ≤ 0 → a = 0 ∧ b = 0 := fun a b h => by
    have n1 := sqr_nonneg a
    have n2 := sqr_nonneg b
    have z1 : a * a = 0 := by omega
    have z2 : b * b = 0 := by omega
    exact ⟨by rcases Int.mul_eq_zero.1 z1 with k | k <;> exact k, by rcases Int.mul_eq_zero.1 z2 with k | k <;> exact k⟩
  rcases Nat.lt_or_ge 2 (hullF ps).length with c | c
  · rw [hasH_3 (by omega)] at hx
    obtain ⟨j, hj, hn⟩ := hasL_ex (hullF ps).length 0 (by omega) hx
    refine ⟨(((hullF ps).getD ((j + 1) % (hullF ps).length) (0, 0)).1 - ((hullF ps).getD j (0, 0)).1, ((hullF ps).getD ((j + 1) % (hullF ps).length) (0, 0)).2 - ((hullF ps).getD j (0, 0)).2), fun q hq => ?_⟩
    have e := hull_edge (ps := ps) (by omega) hj (hull_sub hq)
    generalize (hullF ps).getD ((j + 1) % (hullF ps).length) (0, 0) = V at *
    generalize (hullF ps).getD j (0, 0) = U at *
    have k : Ahd (V.1 - U.1, V.2 - U.2) p q = crP U V q - crs U.1 U.2 V.1 V.2 p.1 p.2 := by unfold Ahd crP crs; grind
    omega
  · have dotd : ∀ u q : Int × Int, Ahd (u.2, -u.1) p q = u.1 * (q.1 - p.1) + u.2 * (q.2 - p.2) := fun u q => by unfold Ahd; grind
    rcases Nat.lt_or_ge 1 (hullF ps).length with g | g
    · have e : (hullF ps).length = 2 := by omega
      rw [hasH_2 e] at hx
      have hin : ∀ q ∈ hullF ps, q = (hullF ps).getD 0 (0, 0) ∨ q = (hullF ps).getD 1 (0, 0) := fun q hq => by
        obtain ⟨i, hi, ei⟩ := at_ hq
        rcases Nat.lt_or_ge i 1 with k | k
        · left; rw [← ei, show i = 0 by omega]
        · right; rw [← ei, show i = 1 by omega]
      generalize (hullF ps).getD 0 (0, 0) = a at *
      generalize (hullF ps).getD 1 (0, 0) = b at *
      have lin : ∀ s : Int, Ahd (s * (b.1 - a.1), s * (b.2 - a.2)) p a = -s * crP a b p ∧ Ahd (s * (b.1 - a.1), s * (b.2 - a.2)) p b = -s * crP a b p := fun s => by
        constructor <;> (unfold Ahd crP crs; grind)
      rcases Int.lt_trichotomy (crP a b p) 0 with k | k | k
      · refine ⟨(1 * (b.1 - a.1), 1 * (b.2 - a.2)), fun q hq => ?_⟩
        rcases hin q hq with rfl | rfl
        · rw [(lin 1).1]; omega
        · rw [(lin 1).2]; omega
      · refine ⟨((a.2 - p.2), -(a.1 - p.1)), fun q hq => ?_⟩
        have hd := dotd (a.1 - p.1, a.2 - p.2) q
        simp only [] at hd
        rw [hd]
        have ho : ¬ dot p.1 p.2 a.1 a.2 b.1 b.2 ≤ 0 := fun o => by
          have k' : crs a.1 a.2 b.1 b.2 p.1 p.2 = 0 := k
          unfold onb at hx
          rw [k', decide_eq_true o] at hx
          revert hx; decide
        rcases hin q hq with rfl | rfl
        · apply Classical.byContradiction; intro hn
          obtain ⟨z1, z2⟩ := sq2 (q.1 - p.1) (q.2 - p.2) (by omega)
          apply ho; unfold dot; rw [z1, z2]; simp
        · unfold dot at ho; omega
      · refine ⟨(-1 * (b.1 - a.1), -1 * (b.2 - a.2)), fun q hq => ?_⟩
        rcases hin q hq with rfl | rfl
        · rw [(lin (-1)).1]; omega
        · rw [(lin (-1)).2]; omega
    · have e : (hullF ps).length = 1 := by omega
      rw [hasH_1 e] at hx
      have hin : ∀ q ∈ hullF ps, q = (hullF ps).getD 0 (0, 0) := fun q hq => by
        obtain ⟨i, hi, ei⟩ := at_ hq
        rw [← ei, show i = 0 by omega]
      generalize (hullF ps).getD 0 (0, 0) = a at *
      refine ⟨((a.2 - p.2), -(a.1 - p.1)), fun q hq => ?_⟩
      rw [hin q hq]
      have hd := dotd (a.1 - p.1, a.2 - p.2) a
      simp only [] at hd
      rw [hd]
      apply Classical.byContradiction; intro hn
      obtain ⟨z1, z2⟩ := sq2 (a.1 - p.1) (a.2 - p.2) (by omega)
      exact eqb_ne hx (Prod.ext (by omega) (by omega))
theorem seA_scan {h : List (Int × Int)} {p d : Int × Int} (hF : ∀ q ∈ h, 0 < Ahd d p q) : ∀ {k : Nat}, k < h.length → ∀ j, j ≤ k → 0 ≤ crP p (seA h p k) (h.getD j (0, 0)) ∧ (crP p (seA h p k) (h.getD j (0, 0)) = 0 → dsq p (seA h p k) ≤ dsq p (h.getD j (0, 0)))
  | 0, hk, j, hj => by
    rw [show j = 0 by omega, seA, crP_self]; exact ⟨Int.le_refl _, fun _ => Int.le_refl _⟩
  | k + 1, hk, j, hj => by
    have ih := seA_scan hF (k := k) (by omega)
    have hm := seA_mem (h := h) (p := p) (k := k) (by omega)
    have hq := mem_getD (ps := h) (i := 1 + k) (by omega)
    have hjm := mem_getD (ps := h) (i := j) (by omega)
    have ihj := ih j
    rw [seA]
    generalize seA h p k = A at *
    rcases Nat.lt_or_ge j (k + 1) with g | g
    · have ihj := ihj (by omega)
      generalize h.getD j (0, 0) = z at *
      generalize h.getD (1 + k) (0, 0) = q at *
      have fA := hF A hm
      have fq := hF q hq
      have fz := hF z hjm
      have id1 := ahd_id d p A q z
      have fl := crP_flip p A q
      split
      · rename_i c
        unfold stA at c
        simp only [Bool.or_eq_true, Bool.and_eq_true, decide_eq_true_eq] at c
        have n1 := mulnnH (Int.le_of_lt fq) ihj.1
        rcases c with c | ⟨c, cd⟩
        · have n2 : 0 < Ahd d p z * crP p q A := Int.mul_pos fz (by omega)
          have pos : 0 < crP p q z := by
            apply Classical.byContradiction; intro hn
            have := Int.mul_nonpos_of_nonneg_of_nonpos (Int.le_of_lt fA) (show crP p q z ≤ 0 by omega)
            omega
          exact ⟨by omega, fun e => by omega⟩
        · rw [show crP p q A = 0 by omega, Int.mul_zero, Int.add_zero] at id1
          refine ⟨?_, fun e => ?_⟩
          · apply Classical.byContradiction; intro hn
            have := Int.mul_neg_of_pos_of_neg fA (show crP p q z < 0 by omega)
            omega
          · rw [e, Int.mul_zero] at id1
            have zz := (Int.mul_eq_zero.1 id1.symm).resolve_left (by omega)
            have := ihj.2 zz
            omega
      · exact ihj
    · rw [show j = 1 + k by omega]
      generalize h.getD (1 + k) (0, 0) = q at *
      split
      · rw [crP_self]; exact ⟨Int.le_refl _, fun _ => Int.le_refl _⟩
      · rename_i c
        unfold stA at c
        simp only [Bool.or_eq_true, Bool.and_eq_true, decide_eq_true_eq, not_or] at c
        exact ⟨by omega, fun e => by have := fun t => c.2 ⟨e, t⟩; omega⟩
theorem seB_scan {h : List (Int × Int)} {p d : Int × Int} (hF : ∀ q ∈ h, 0 < Ahd d p q) : ∀ {k : Nat}, k < h.length → ∀ j, j ≤ k → crP p (seB h p k) (h.getD j (0, 0)) ≤ 0 ∧ (crP p (seB h p k) (h.getD j (0, 0)) = 0 → dsq p (seB h p k) ≤ dsq p (h.getD j (0, 0)))
  | 0, hk, j, hj => by
    rw [show j = 0 by omega, seB, crP_self]; exact ⟨Int.le_refl _, fun _ => Int.le_refl _⟩
  | k + 1, hk, j, hj => by
    have ih := seB_scan hF (k := k) (by omega)
    have hm := seB_mem (h := h) (p := p) (k := k) (by omega)
    have hq := mem_getD (ps := h) (i := 1 + k) (by omega)
    have hjm := mem_getD (ps := h) (i := j) (by omega)
    have ihj := ih j
    rw [seB]
    generalize seB h p k = A at *
    rcases Nat.lt_or_ge j (k + 1) with g | g
    · have ihj := ihj (by omega)
      generalize h.getD j (0, 0) = z at *
      generalize h.getD (1 + k) (0, 0) = q at *
      have fA := hF A hm
      have fq := hF q hq
      have fz := hF z hjm
      have id1 := ahd_id d p A q z
      have fl := crP_flip p A q
      split
      · rename_i c
        unfold stB at c
        simp only [Bool.or_eq_true, Bool.and_eq_true, decide_eq_true_eq] at c
        have n1 := Int.mul_nonpos_of_nonneg_of_nonpos (Int.le_of_lt fq) ihj.1
        rcases c with c | ⟨c, cd⟩
        · have n2 : Ahd d p z * crP p q A < 0 := Int.mul_neg_of_pos_of_neg fz (by omega)
          have neg : crP p q z < 0 := by
            apply Classical.byContradiction; intro hn
            have := mulnnH (Int.le_of_lt fA) (show 0 ≤ crP p q z by omega)
            omega
          exact ⟨by omega, fun e => by omega⟩
        · rw [show crP p q A = 0 by omega, Int.mul_zero, Int.add_zero] at id1
          refine ⟨?_, fun e => ?_⟩
          · apply Classical.byContradiction; intro hn
            have := Int.mul_pos fA (show 0 < crP p q z by omega)
            omega
          · rw [e, Int.mul_zero] at id1
            have zz := (Int.mul_eq_zero.1 id1.symm).resolve_left (by omega)
            have := ihj.2 zz
            omega
      · exact ihj
    · rw [show j = 1 + k by omega]
      generalize h.getD (1 + k) (0, 0) = q at *
      split
      · rw [crP_self]; exact ⟨Int.le_refl _, fun _ => Int.le_refl _⟩
      · rename_i c
        unfold stB at c
        simp only [Bool.or_eq_true, Bool.and_eq_true, decide_eq_true_eq, not_or] at c
        exact ⟨by omega, fun e => by have := fun t => c.2 ⟨e, t⟩; omega⟩
theorem okS_iff {h : List (Int × Int)} {p q : Int × Int} {s : Int} : okS h p s q = true ↔ ∀ x ∈ h, 0 ≤ crP p q x * s := by
  unfold okS
  rw [Bool.not_eq_true', List.any_eq_false]
  constructor
  · intro k x hx
    have := k x hx
    unfold sdf at this
    rw [decide_eq_true_eq] at this
    omega
  · intro k x hx
    have := k x hx
    unfold sdf
    rw [decide_eq_true_eq]
    omega
/-- the nearest of those that hold all on one side is the one that the code comes to -/
theorem find_same {h : List (Int × Int)} {p d A : Int × Int} {s : Int} (hF : ∀ q ∈ h, 0 < Ahd d p q) (hA : A ∈ h) (hs : s = 1 ∨ s = -1) (hk : ∀ x ∈ h, 0 ≤ crP p A x * s ∧ (crP p A x = 0 → dsq p A ≤ dsq p x)) :
    1 ≤ (h.filter (okS h p s)).length ∧ mnD p (h.filter (okS h p s)) ((h.filter (okS h p s)).length - 1) = A := by
  have hAl : A ∈ h.filter (okS h p s) := List.mem_filter.2 ⟨hA, okS_iff.2 (fun x hx => (hk x hx).1)⟩
  have hn : 1 ≤ (h.filter (okS h p s)).length := List.length_pos_of_mem hAl
  refine ⟨hn, ?_⟩
  obtain ⟨⟨j, hj, e⟩, k⟩ := mnD_spec p (h.filter (okS h p s)) ((h.filter (okS h p s)).length - 1)
  have hm : mnD p (h.filter (okS h p s)) ((h.filter (okS h p s)).length - 1) ∈ h.filter (okS h p s) := e ▸ mem_getD (by omega)
  obtain ⟨i, hi, ei⟩ := List.mem_iff_getElem.1 hAl
  have kA := k i (by omega)
  rw [getD_lt hi, ei] at kA
  generalize mnD p (h.filter (okS h p s)) ((h.filter (okS h p s)).length - 1) = m at *
  obtain ⟨m1, m2⟩ := List.mem_filter.1 hm
  have m3 := okS_iff.1 m2 A hA
  have a3 := hk m m1
  have fl := crP_flip p A m
  have h0 : crP p A m = 0 := by rcases hs with rfl | rfl <;> omega
  have h0' : crP p m A = 0 := by omega
  have dd := a3.2 h0
  rcases Int.le_total (Ahd d p A) (Ahd d p m) with g | g
  · exact (line_same h0 (hF A hA) (hF m m1) (by omega) g).symm
  · exact line_same h0' (hF m m1) (hF A hA) (by omega) g
theorem find_A {ps : List (Int × Int)} {p : Int × Int} (h1 : 1 ≤ ps.length) (hx : hasH (hullF ps) p.1 p.2 = false) :
    1 ≤ ((hullF ps).filter (okS (hullF ps) p 1)).length ∧ mnD p ((hullF ps).filter (okS (hullF ps) p 1)) (((hullF ps).filter (okS (hullF ps) p 1)).length - 1) = seA (hullF ps) p ((hullF ps).length - 1) := by
  obtain ⟨d, hF⟩ := dir_ex h1 hx
  have hl := hull_len h1
  refine find_same hF (seA_mem (by omega)) (.inl rfl) (fun x hxm => ?_)
  obtain ⟨i, hi, ei⟩ := List.mem_iff_getElem.1 hxm
  have := seA_scan hF (k := (hullF ps).length - 1) (by omega) i (by omega)
  rw [getD_lt hi, ei] at this
  exact ⟨by omega, this.2⟩
theorem find_B {ps : List (Int × Int)} {p : Int × Int} (h1 : 1 ≤ ps.length) (hx : hasH (hullF ps) p.1 p.2 = false) :
    1 ≤ ((hullF ps).filter (okS (hullF ps) p (-1))).length ∧ mnD p ((hullF ps).filter (okS (hullF ps) p (-1))) (((hullF ps).filter (okS (hullF ps) p (-1))).length - 1) = seB (hullF ps) p ((hullF ps).length - 1) := by
  obtain ⟨d, hF⟩ := dir_ex h1 hx
  have hl := hull_len h1
  refine find_same hF (seB_mem (by omega)) (.inr rfl) (fun x hxm => ?_)
  obtain ⟨i, hi, ei⟩ := List.mem_iff_getElem.1 hxm
  have := seB_scan hF (k := (hullF ps).length - 1) (by omega) i (by omega)
  rw [getD_lt hi, ei] at this
  exact ⟨by omega, this.2⟩
end Go.Proofs.Ytomnkdlfmjdckaa.Am.Sp

set_option linter.unusedVariables false
set_option linter.unusedSimpArgs false
namespace Go.Proofs.Ytomnkdlfmjdckaa.Am.Sp
open Go
theorem fsS_one {h : List (Int × Int)} {p : Int × Int} {s : Int} {k : Nat} (hk : k < h.length) (e : (!(h.any (sdf p ((h.getD k (0, 0)).1, (h.getD k (0, 0)).2) s))) = true) (hz : fsS h p s k = []) : (fsS h p s (k + 1)).length = 1 := by rw [fsS_yes hk e, hz]; rfl
theorem sqm_bd {t M : Int} (h1 : -M ≤ t) (h2 : t ≤ M) : 0 ≤ t * t ∧ t * t ≤ M * M := by
  refine ⟨sqr_nonneg t, ?_⟩
  have := mulnnH (show 0 ≤ M - t by omega) (show 0 ≤ M + t by omega)
  have e : (M - t) * (M + t) = M * M - t * t := by grind
  omega
theorem far_bd {x y a b : Int} (h1 : -1048576 ≤ x ∧ x ≤ 1048576) (h2 : -1048576 ≤ y ∧ y ≤ 1048576) (h3 : -1048576 ≤ a ∧ a ≤ 1048576) (h4 : -1048576 ≤ b ∧ b ≤ 1048576) : 0 ≤ dot x y a b a b ∧ dot x y a b a b ≤ 8796093022208 := by
  unfold dot
  have b1 := sqm_bd (t := a - x) (M := 2097152) (by omega) (by omega)
  have b2 := sqm_bd (t := b - y) (M := 2097152) (by omega) (by omega)
  omega
theorem sgn_mul {c s : Int} (hs : s = 1 ∨ s = -1) : c * s = c ∨ c * s = -c := by rcases hs with rfl | rfl <;> simp
theorem fsS_few {h : List (Int × Int)} {m : Int} (hm : 0 ≤ m) (hf : Few m h) (p s k) : Few m (fsS h p s k) := few_sub hm hf (fun q hq => List.mem_of_mem_take (List.mem_filter.1 hq).1)
end Go.Proofs.Ytomnkdlfmjdckaa.Am.Sp

