import Derived.Test.YtomnkdlfmjdckaaHu2
import Derived.Test.YtomnkdlfmjdckaaAm25
import Derived.Test.YtomnkdlfmjdckaaRg5
set_option linter.unusedVariables false
set_option linter.unusedSimpArgs false
namespace Go.Proofs.Ytomnkdlfmjdckaa.Am.Sp
open Go
/-! What the code of package hull computes -/
def nop : List (Int × Int) := []
/-- without what is the same as the one ahead -/
def ddp : List (Int × Int) → List (Int × Int)
  | a :: b :: r => if a = b then ddp (b :: r) else a :: ddp (b :: r)
  | [a] => [a]
  | [] => []
theorem ddp_cons_head : ∀ (a : Int × Int) (r : List (Int × Int)), ∃ t, ddp (a :: r) = a :: t
  | a, [] => ⟨[], rfl⟩
  | a, b :: r => by
    rw [ddp]
    split
    · rename_i h; subst h; exact ddp_cons_head a r
    · exact ⟨_, rfl⟩
theorem ddp_snoc_eq : ∀ (l : List (Int × Int)) (x : Int × Int), l.getLast? = some x → ddp (l ++ [x]) = ddp l
  | [], x, h => by simp at h
  | [a], x, h => by
    have : a = x := by simpa using h
    subst this; simp [ddp]
  | a :: b :: r, x, h => by
    have ih := ddp_snoc_eq (b :: r) x (by rw [List.getLast?_cons_cons] at h; exact h)
    rw [List.cons_append] at ih
    rw [List.cons_append, List.cons_append, ddp, ddp, ih]
theorem ddp_snoc_ne : ∀ (l : List (Int × Int)) (x : Int × Int), l.getLast? ≠ some x → ddp (l ++ [x]) = ddp l ++ [x]
  | [], x, h => rfl
  | [a], x, h => by
    have : a ≠ x := by simpa using h
    simp [ddp, this]
  | a :: b :: r, x, h => by
    have ih := ddp_snoc_ne (b :: r) x (by rw [List.getLast?_cons_cons] at h; exact h)
    rw [List.cons_append] at ih
    rw [List.cons_append, List.cons_append, ddp, ddp, ih]
    split <;> simp
theorem getLast_take {l : List (Int × Int)} {j : Nat} (h1 : 1 ≤ j) (h : j ≤ l.length) : (l.take j).getLast? = some (l.getD (j - 1) (0, 0)) := by
  rw [List.getLast?_eq_getElem?, List.length_take, Nat.min_eq_left h, List.getElem?_take, if_pos (by omega), List.getElem?_eq_getElem (by omega), getD_lt (by omega)]
theorem take_one_more {l : List (Int × Int)} {j : Nat} (h : j < l.length) : l.take (j + 1) = l.take j ++ [l.getD j (0, 0)] := by
  rw [List.take_succ_eq_append_getElem h, getD_lt h]
theorem ddp_next_eq {l : List (Int × Int)} {j : Nat} (h1 : 1 ≤ j) (h : j < l.length) (e : l.getD j (0, 0) = l.getD (j - 1) (0, 0)) : ddp (l.take (j + 1)) = ddp (l.take j) := by
  rw [take_one_more h]; exact ddp_snoc_eq _ _ (by rw [getLast_take h1 (by omega), e])
theorem ddp_next_ne {l : List (Int × Int)} {j : Nat} (h1 : 1 ≤ j) (h : j < l.length) (e : l.getD j (0, 0) ≠ l.getD (j - 1) (0, 0)) : ddp (l.take (j + 1)) = ddp (l.take j) ++ [l.getD j (0, 0)] := by
  rw [take_one_more h]; exact ddp_snoc_ne _ _ (by rw [getLast_take h1 (by omega)]; simp only [ne_eq, Option.some.injEq]; exact fun q => e q.symm)
/-- the two points are the same, as the code asks it -/
theorem eqb_iff (a b : Int × Int) : ((a.1 == b.1) && ((a.2 == b.2) && true)) = true ↔ a = b := by
  simp [Prod.ext_iff]
theorem eqb_ne {a b : Int × Int} (h : ((a.1 == b.1) && ((a.2 == b.2) && true)) = false) : a ≠ b := fun q => by rw [(eqb_iff a b).2 q] at h; cases h
/-- Compact: the first loop has found nothing yet -/
theorem cmp_go {l : List (Int × Int)} {k : Nat} (h1 : 1 ≤ k) (h : k < l.length) (hi : ddp (l.take k) = l.take k) (e : l.getD k (0, 0) ≠ l.getD (k - 1) (0, 0)) : ddp (l.take (k + 1)) = l.take (k + 1) := by
  rw [ddp_next_ne h1 h e, hi, ← take_one_more h]
theorem cmp_one (l : List (Int × Int)) : ddp (l.take 1) = l.take 1 := by cases l <;> rfl
theorem cmp_short {l : List (Int × Int)} (h : l.length < 2) : ddp l = l := by
  match l, h with
  | [], _ => rfl
  | [a], _ => rfl
/-- Compact: the second loop: what is kept lies in front, what is to come lies where it lay -/
structure Cpt (l cur : List (Int × Int)) (k j : Nat) : Prop where
  len : cur.length = l.length
  front : cur.take k = ddp (l.take j)
  rest : ∀ i, j ≤ i + 1 → cur.getD i (0, 0) = l.getD i (0, 0)
  lt : k < j
  le : 1 ≤ k
theorem cpt_start {l : List (Int × Int)} {k : Nat} (h1 : 1 ≤ k) (h : k < l.length) (hi : ddp (l.take k) = l.take k) (e : l.getD k (0, 0) = l.getD (k - 1) (0, 0)) : Cpt l l k (k + 1) :=
  ⟨rfl, by rw [ddp_next_eq h1 h e, hi], fun _ _ => rfl, by omega, h1⟩
theorem cpt_same {l cur : List (Int × Int)} {k j : Nat} (h : Cpt l cur k j) (hj : j < l.length) (e : cur.getD j (0, 0) = cur.getD (j - 1) (0, 0)) : Cpt l cur k (j + 1) := by
  have hk := h.lt
  have h1 := h.le
  refine ⟨h.len, ?_, fun i hi => h.rest i (by omega), by omega, h1⟩
  rw [ddp_next_eq (by omega) hj (by rw [← h.rest j (by omega), ← h.rest (j - 1) (by omega)]; exact e)]; exact h.front
theorem cpt_new {l cur : List (Int × Int)} {k j : Nat} {x y : Int} (h : Cpt l cur k j) (hj : j < l.length) (e : cur.getD j (0, 0) ≠ cur.getD (j - 1) (0, 0)) (hx : x = (cur.getD j (0, 0)).1) (hy : y = (cur.getD j (0, 0)).2) : Cpt l (cur.set k (x, y)) (k + 1) (j + 1) := by
  subst hx; subst hy
  have hk := h.lt
  have h1 := h.le
  have hl := h.len
  refine ⟨by rw [List.length_set]; exact hl, ?_, fun i hi => ?_, by omega, by omega⟩
  · rw [ddp_next_ne (by omega) hj (by rw [← h.rest j (by omega), ← h.rest (j - 1) (by omega)]; exact e), ← h.front, take_one_more (by rw [List.length_set]; omega)]
    congr 1
    · rw [List.take_set_of_le (Nat.le_refl _)]
    · rw [getD_lt (by rw [List.length_set]; omega), List.getElem_set_self, h.rest j (by omega)]
  · rw [← h.rest i (by omega), List.getD_eq_getElem?_getD, List.getElem?_set_ne (by omega)]; rfl
theorem cpt_end {l cur : List (Int × Int)} {k j : Nat} (h : Cpt l cur k j) (hj : l.length ≤ j) (hjl : j ≤ l.length) : ddp l = cur.take k ∧ (ddp l).length = k := by
  have hk := h.lt
  have e : ddp l = cur.take k := by rw [h.front, List.take_of_length_le hj]
  exact ⟨e, by rw [e, List.length_take, h.len]; omega⟩
theorem cpt_same2 {l cur : List (Int × Int)} {k k0 j : Nat} (h1 : 1 ≤ j) (h : Cpt l cur k (k0 + j)) (hj : k0 + j < l.length) (e : cur.getD (k0 + j) (0, 0) = cur.getD (k0 + (j - 1)) (0, 0)) : Cpt l cur k (k0 + (j + 1)) :=
  cpt_same (j := k0 + j) h hj (by rw [show k0 + (j - 1) = k0 + j - 1 by omega] at e; exact e)
theorem cpt_new2 {l cur : List (Int × Int)} {k k0 j : Nat} (h1 : 1 ≤ j) (h : Cpt l cur k (k0 + j)) (hj : k0 + j < l.length) (e : cur.getD (k0 + j) (0, 0) ≠ cur.getD (k0 + (j - 1)) (0, 0)) : Cpt l (cur.set k ((cur.getD (k0 + j) (0, 0)).1, (cur.getD (k0 + j) (0, 0)).2)) (k + 1) (k0 + (j + 1)) :=
  cpt_new (j := k0 + j) h hj (by rw [show k0 + (j - 1) = k0 + j - 1 by omega] at e; exact e) rfl rfl
theorem nb_f {b : Bool} (h : (!b) = false) : b = true := by simpa using h
theorem nb_t {b : Bool} (h : (!b) = true) : b = false := by simpa using h
theorem cut_take {ps : List (Int × Int)} {k : Nat} : (ps.take k).flatMap ptc = (ps.flatMap ptc).take (2 * k) := by
  have := cut_pairs (ps := ps) (off := 0) (j := 0) (m := 2 * k) (k := k) (by omega) rfl
  rw [List.drop_zero, List.drop_zero] at this; exact this.symm
/-! the stack of a chain -/
def stk (l : List (Int × Int)) : Nat → List (Int × Int)
  | 0 => []
  | i + 1 => l.getD i (0, 0) :: popC (l.getD i (0, 0)) (stk l i)
/-- a chain without its last point -/
def chO (l : List (Int × Int)) : List (Int × Int) := (stk l l.length).tail.reverse
theorem popC_mem {q : Int × Int} : ∀ {c : List (Int × Int)} {p : Int × Int}, p ∈ popC q c → p ∈ c
  | [], p, h => h
  | [a], p, h => h
  | b :: a :: r, p, h => by
    rw [popC] at h
    split at h
    · exact List.mem_cons_of_mem _ (popC_mem h)
    · exact h
theorem stk_mem {l : List (Int × Int)} : ∀ {i : Nat} {p : Int × Int}, i ≤ l.length → p ∈ stk l i → p ∈ l
  | 0, p, _, h => by simp [stk] at h
  | i + 1, p, hi, h => by
    rcases List.mem_cons.1 h with e | e
    · rw [e, getD_lt (by omega)]; exact List.getElem_mem _
    · exact stk_mem (by omega) (popC_mem e)
theorem few_stk {m : Int} {bs l c : List (Int × Int)} (hm : 0 ≤ m) (hb : Few m bs) (hl : Few m l) (hc : ∀ p ∈ c, p ∈ l) : Few m (bs ++ c.reverse) := by
  refine few_of hm (fun q hq => ?_)
  rcases List.mem_append.1 hq with k | k
  · exact few_mem hb k
  · exact few_mem hl (hc q (List.mem_reverse.1 k))
theorem popC_short {q : Int × Int} {c : List (Int × Int)} (h : c.length ≤ 1) : popC q c = c := by
  match c, h with
  | [], _ => rfl
  | [a], _ => rfl
theorem top_two {bs c : List (Int × Int)} (h : 2 ≤ c.length) : ∃ b a r, c = b :: a :: r ∧ (bs ++ c.reverse).getD (bs.length + c.length - 1) (0, 0) = b ∧ (bs ++ c.reverse).getD (bs.length + c.length - 2) (0, 0) = a := by
  match c, h with
  | b :: a :: r, _ =>
    refine ⟨b, a, r, rfl, ?_, ?_⟩
    · rw [List.getD_eq_getElem?_getD, List.getElem?_append_right (by simp only [List.length_cons]; omega)]
      rw [show bs.length + (b :: a :: r).length - 1 - bs.length = r.length + 1 by simp only [List.length_cons]; omega]; simp
    · rw [List.getD_eq_getElem?_getD, List.getElem?_append_right (by simp only [List.length_cons]; omega)]
      rw [show bs.length + (b :: a :: r).length - 2 - bs.length = r.length by simp only [List.length_cons]; omega]; simp
/-- the code's test: may the last one be taken out? -/
def popB (L : List (Int × Int)) (N : Nat) (x y : Int) : Bool := decide (crs (L.getD (N - 2) (0, 0)).1 (L.getD (N - 2) (0, 0)).2 (L.getD (N - 1) (0, 0)).1 (L.getD (N - 1) (0, 0)).2 x y ≤ 0)
theorem popB_dec (L N x y) : decide (cmp (crs (List.getD L (N - 2) (0, 0)).1 (List.getD L (N - 2) (0, 0)).2 (List.getD L (N - 1) (0, 0)).1 (List.getD L (N - 1) (0, 0)).2 x y) 0 ≤ 0) = popB L N x y := by
  unfold popB; rw [Bool.eq_iff_iff, decide_eq_true_eq, decide_eq_true_eq]; unfold cmp; split <;> (try split) <;> omega
theorem popC_yes {bs c : List (Int × Int)} {q : Int × Int} (h : 2 ≤ c.length) (hb : popB (bs ++ c.reverse) (bs.length + c.length) q.1 q.2 = true) : popC q c.tail = popC q c := by
  obtain ⟨b, a, r, rfl, e1, e2⟩ := top_two (bs := bs) h
  unfold popB at hb
  rw [e1, e2, decide_eq_true_eq] at hb
  rw [List.tail_cons, popC.eq_1, if_pos (show crP a b q ≤ 0 from hb)]
theorem popC_no {bs c : List (Int × Int)} {q : Int × Int} (h : 2 ≤ c.length) (hb : popB (bs ++ c.reverse) (bs.length + c.length) q.1 q.2 = false) : popC q c = c := by
  obtain ⟨b, a, r, rfl, e1, e2⟩ := top_two (bs := bs) h
  unfold popB at hb
  rw [e1, e2, decide_eq_false_iff_not] at hb
  rw [popC, if_neg (show ¬ crP a b q ≤ 0 from hb)]
theorem stk_next {l c : List (Int × Int)} {i : Nat} (h : popC (l.getD i (0, 0)) c = popC (l.getD i (0, 0)) (stk l i)) (h2 : popC (l.getD i (0, 0)) c = c) : stk l (i + 1) = l.getD i (0, 0) :: c := by
  rw [stk, ← h, h2]
theorem stk_pos {l : List (Int × Int)} {i : Nat} (h : 1 ≤ i) : 1 ≤ (stk l i).length := by
  cases i with
  | zero => omega
  | succ i => simp [stk]
theorem popC_len {q : Int × Int} : ∀ {c : List (Int × Int)}, (popC q c).length ≤ c.length
  | [] => Nat.le_refl _
  | [a] => Nat.le_refl _
  | b :: a :: r => by
    rw [popC]
    split
    · exact Nat.le_trans popC_len (by simp)
    · exact Nat.le_refl _
theorem stk_len (l : List (Int × Int)) : ∀ i, (stk l i).length ≤ i
  | 0 => Nat.le_refl _
  | i + 1 => by rw [stk, List.length_cons]; have := popC_len (q := l.getD i (0, 0)) (c := stk l i); have := stk_len l i; omega
theorem chO_len {l : List (Int × Int)} : (chO l).length = (stk l l.length).length - 1 := by unfold chO; simp
theorem stk_chS {l : List (Int × Int)} : ∀ (k i : Nat), i + k = l.length → chS (stk l i) (l.drop i) = stk l l.length
  | 0, i, h => by rw [List.drop_of_length_le (by omega), show i = l.length by omega]; rfl
  | k + 1, i, h => by
    rw [List.drop_eq_getElem_cons (by omega), chS, ← stk_chS k (i + 1) (by omega), stk, getD_lt (by omega)]
theorem stk_all (l : List (Int × Int)) : stk l l.length = chS [] l := by
  have := stk_chS (l := l) l.length 0 (by omega)
  rw [List.drop_zero] at this; exact this.symm
theorem pop_take {bs c : List (Int × Int)} (h : 1 ≤ c.length) : ((bs ++ c.tail.reverse).flatMap ptc) = ((bs ++ c.reverse).flatMap ptc).take (2 * (bs.length + c.length - 1)) := by
  rw [← cut_take]
  congr 1
  match c, h with
  | a :: r, _ =>
    rw [List.tail_cons, List.reverse_cons, ← List.append_assoc, List.take_append_of_le_length (by simp), List.take_of_length_le (by simp)]
theorem stk_snoc {bs l c : List (Int × Int)} {i : Nat} (h : popC (l.getD i (0, 0)) c = popC (l.getD i (0, 0)) (stk l i)) (h2 : popC (l.getD i (0, 0)) c = c) :
    (bs ++ c.reverse).flatMap ptc ++ [.int .i64 (l.getD i (0, 0)).1, .int .i64 (l.getD i (0, 0)).2] = (bs ++ (stk l (i + 1)).reverse).flatMap ptc := by
  rw [stk_next h h2]; simp [ptc]
theorem stk_len_next {l c : List (Int × Int)} {i : Nat} (n : Nat) (h : popC (l.getD i (0, 0)) c = popC (l.getD i (0, 0)) (stk l i)) (h2 : popC (l.getD i (0, 0)) c = c) : n + (stk l (i + 1)).length = n + c.length + 1 := by
  rw [stk_next h h2, List.length_cons]; omega
theorem chO_len2 {bs l : List (Int × Int)} (h : 1 ≤ l.length) : (bs ++ chO l).length = bs.length + (stk l l.length).length - 1 := by
  rw [List.length_append, chO_len]; have := stk_pos (l := l) h; omega
/-- the hull of points in their order, each once -/
def hullL (s : List (Int × Int)) : List (Int × Int) := if s.length < 2 then s else chO s ++ chO s.reverse
/-- the hull of points -/
def hullF (ps : List (Int × Int)) : List (Int × Int) := hullL (ddp (srtP ps))
theorem hullF_short {qs ss ds : List (Int × Int)} (hss : srtP qs = ss) (hds : ddp ss = ds) (h : ds.length < 2) : hullF qs = ds := by
  unfold hullF hullL; rw [hss, hds, if_pos h]
theorem hullF_long {qs ss ds : List (Int × Int)} (hss : srtP qs = ss) (hds : ddp ss = ds) (h : ¬ ds.length < 2) : hullF qs = chO ds ++ chO ds.reverse := by
  unfold hullF hullL; rw [hss, hds, if_neg h]
theorem ddp_mem : ∀ {l : List (Int × Int)} {p : Int × Int}, p ∈ ddp l ↔ p ∈ l
  | [], p => Iff.rfl
  | [a], p => Iff.rfl
  | a :: b :: r, p => by
    have ih := ddp_mem (l := b :: r) (p := p)
    rw [ddp]
    split
    · rename_i h; subst h; rw [ih]; simp
    · rw [List.mem_cons, ih, List.mem_cons]
      simp [List.mem_cons]
theorem ddp_length (l : List (Int × Int)) : (ddp l).length ≤ l.length := by
  match l with
  | [] => exact Nat.le_refl _
  | [a] => exact Nat.le_refl _
  | a :: b :: r =>
    have ih := ddp_length (b :: r)
    rw [ddp]
    split
    · exact Nat.le_trans ih (by simp)
    · simp only [List.length_cons] at *; omega
theorem ddp_pos {l : List (Int × Int)} (h : 1 ≤ l.length) : 1 ≤ (ddp l).length := by
  cases l with
  | nil => simp at h
  | cons a r => obtain ⟨t, e⟩ := ddp_cons_head a r; rw [e]; simp
theorem chO_mem {l : List (Int × Int)} {p : Int × Int} (h : p ∈ chO l) : p ∈ l := by
  unfold chO at h
  exact stk_mem (Nat.le_refl _) (List.mem_of_mem_tail (List.mem_reverse.1 h))
theorem chO_length (l : List (Int × Int)) : (chO l).length ≤ l.length := by rw [chO_len]; have := stk_len l l.length; omega
/-- is the point left of all edges from here on? -/
def hasL (h : List (Int × Int)) (x y : Int) (i : Nat) : Bool :=
  if i < h.length then if crs (h.getD i (0, 0)).1 (h.getD i (0, 0)).2 (h.getD ((i + 1) % h.length) (0, 0)).1 (h.getD ((i + 1) % h.length) (0, 0)).2 x y < 0 then false else hasL h x y (i + 1) else true
termination_by h.length - i
theorem hasL_end {h : List (Int × Int)} {x y : Int} {i : Nat} (hi : ¬ i < h.length) : hasL h x y i = true := by rw [hasL, if_neg hi]
theorem cmp_lt0 (n : Int) : decide (cmp n 0 < 0) = decide (n < 0) := by
  rw [Bool.eq_iff_iff, decide_eq_true_eq, decide_eq_true_eq]; unfold cmp; split <;> (try split) <;> omega
theorem hasL_out {h : List (Int × Int)} {x y : Int} {i j : Nat} (hi : i < h.length) (hj : (i + 1) % h.length = j) (e : decide (cmp (crs (h.getD i (0, 0)).1 (h.getD i (0, 0)).2 (h.getD j (0, 0)).1 (h.getD j (0, 0)).2 x y) 0 < 0) = true) : hasL h x y i = false := by
  rw [cmp_lt0, decide_eq_true_eq] at e
  rw [hasL, if_pos hi, hj, if_pos e]
theorem hasL_next {h : List (Int × Int)} {x y : Int} {i j : Nat} (hi : i < h.length) (hj : (i + 1) % h.length = j) (e : decide (cmp (crs (h.getD i (0, 0)).1 (h.getD i (0, 0)).2 (h.getD j (0, 0)).1 (h.getD j (0, 0)).2 x y) 0 < 0) = false) : hasL h x y (i + 1) = hasL h x y i := by
  rw [cmp_lt0, decide_eq_false_iff_not] at e
  conv => rhs; rw [hasL, if_pos hi, hj, if_neg e]
/-- does the hull contain the point? -/
def hasH (h : List (Int × Int)) (x y : Int) : Bool :=
  if h.length = 0 then false else if h.length = 1 then (((h.getD 0 (0, 0)).1 == x) && (((h.getD 0 (0, 0)).2 == y) && true))
  else if h.length = 2 then onb (h.getD 0 (0, 0)).1 (h.getD 0 (0, 0)).2 (h.getD 1 (0, 0)).1 (h.getD 1 (0, 0)).2 x y else hasL h x y 0
theorem hasH_0 {h : List (Int × Int)} {x y : Int} (e : h.length = 0) : hasH h x y = false := by unfold hasH; rw [if_pos e]
theorem hasH_1 {h : List (Int × Int)} {x y : Int} (e : h.length = 1) : hasH h x y = (((h.getD 0 (0, 0)).1 == x) && (((h.getD 0 (0, 0)).2 == y) && true)) := by unfold hasH; rw [if_neg (by omega), if_pos e]
theorem hasH_2 {h : List (Int × Int)} {x y : Int} (e : h.length = 2) : hasH h x y = onb (h.getD 0 (0, 0)).1 (h.getD 0 (0, 0)).2 (h.getD 1 (0, 0)).1 (h.getD 1 (0, 0)).2 x y := by unfold hasH; rw [if_neg (by omega), if_neg (by omega), if_pos e]
theorem hasH_3 {h : List (Int × Int)} {x y : Int} (e : 3 ≤ h.length) : hasH h x y = hasL h x y 0 := by unfold hasH; rw [if_neg (by omega), if_neg (by omega), if_neg (by omega)]
end Go.Proofs.Ytomnkdlfmjdckaa.Am.Sp

set_option linter.unusedVariables false
set_option linter.unusedSimpArgs false
namespace Go.Proofs.Ytomnkdlfmjdckaa.Am.Sp
open Go
/-! Convex hulls: what is true of them -/
def negP (p : Int × Int) : Int × Int := (-p.1, -p.2)
theorem crP_neg (a b c : Int × Int) : crP (negP a) (negP b) (negP c) = crP a b c := by unfold crP crs negP; grind
theorem lxP_neg {a b : Int × Int} : lxP (negP a) (negP b) ↔ lxP b a := by unfold lxP negP; simp only []; omega
theorem negP_inj {a b : Int × Int} (h : negP a = negP b) : a = b := by
  unfold negP at h; rw [Prod.mk.injEq] at h; exact Prod.ext (by omega) (by omega)
theorem popC_map (q : Int × Int) : ∀ (c : List (Int × Int)), popC (negP q) (c.map negP) = (popC q c).map negP
  | [] => rfl
  | [a] => rfl
  | b :: a :: r => by
    have ih := popC_map q (a :: r)
    rw [List.map_cons] at ih
    rw [List.map_cons, List.map_cons, popC, popC, crP_neg, ih]
    split <;> rfl
theorem chS_map : ∀ (l acc : List (Int × Int)), chS (acc.map negP) (l.map negP) = (chS acc l).map negP
  | [], acc => rfl
  | q :: t, acc => by
    rw [List.map_cons, chS, chS, popC_map, ← List.map_cons]
    exact chS_map t _
theorem Lf.at {S : List (Int × Int)} : ∀ {C : List (Int × Int)} {j : Nat}, Lf S C → j + 1 < C.length → ∀ p ∈ S, 0 ≤ crP (C.getD (j + 1) (0, 0)) (C.getD j (0, 0)) p
  | b :: a :: r, 0, h, _, p, hp => h.1 p hp
  | b :: a :: r, j + 1, h, hj, p, hp => Lf.at (C := a :: r) (j := j) h.2 (by simpa using hj) p hp
  | [x], j, _, hj, _, _ => by simp at hj
  | [], j, _, hj, _, _ => by simp at hj
theorem Tr.at : ∀ {C : List (Int × Int)} {j : Nat}, Tr C → j + 2 < C.length → 0 < crP (C.getD (j + 2) (0, 0)) (C.getD (j + 1) (0, 0)) (C.getD j (0, 0))
  | c :: b :: a :: r, 0, h, _ => h.1
  | c :: b :: a :: r, j + 1, h, hj => Tr.at (C := b :: a :: r) (j := j) h.2 (by simpa using hj)
  | [x, y], j, _, hj => by simp only [List.length_cons, List.length_nil] at hj; omega
  | [x], j, _, hj => by simp at hj
  | [], j, _, hj => by simp at hj
theorem Ds.at : ∀ {C : List (Int × Int)} {j : Nat}, Ds C → j + 1 < C.length → lxP (C.getD (j + 1) (0, 0)) (C.getD j (0, 0))
  | b :: a :: r, 0, h, _ => h.1
  | b :: a :: r, j + 1, h, hj => Ds.at (C := a :: r) (j := j) h.2 (by simpa using hj)
  | [x], j, _, hj => by simp at hj
  | [], j, _, hj => by simp at hj
theorem ddp_rise : ∀ {l : List (Int × Int)}, l.Pairwise (fun a b => leB a b = true) → (ddp l).Pairwise lxP
  | [], h => .nil
  | [a], h => List.pairwise_singleton _ _
  | a :: b :: r, h => by
    have hh := List.pairwise_cons.1 h
    have ih := ddp_rise hh.2
    rw [ddp]
    split
    · exact ih
    · rename_i hne
      refine List.pairwise_cons.2 ⟨fun x hx => ?_, ih⟩
      have hx' := ddp_mem.1 hx
      have h1 := (leB_iff a x).1 (hh.1 x hx')
      rcases lxP.tri a x with k | k | k
      · exact k
      · subst k
        exfalso
        rcases List.mem_cons.1 hx' with e | e
        · exact hne e
        · have h2 := (List.pairwise_cons.1 hh.2).1 a e
          exact hne (leB_anti (hh.1 b (by simp)) h2)
      · exact (h1 k).elim
/-- the points of a list in their order, each once -/
def srd (ps : List (Int × Int)) : List (Int × Int) := ddp (srtP ps)
theorem srd_rise (ps) : (srd ps).Pairwise lxP := ddp_rise (srtP_sorted ps)
theorem srd_mem {ps : List (Int × Int)} {p : Int × Int} : p ∈ srd ps ↔ p ∈ ps := ddp_mem.trans (srtP_perm ps).mem_iff
theorem rise_uniq : ∀ {l l' : List (Int × Int)}, l.Pairwise lxP → l'.Pairwise lxP → (∀ p, p ∈ l ↔ p ∈ l') → l = l'
  | [], [], _, _, _ => rfl
  | [], b :: r, _, _, h => absurd ((h b).2 (by simp)) (by simp)
  | a :: r, [], _, _, h => absurd ((h a).1 (by simp)) (by simp)
  | a :: r, b :: r', hp, hp', h => by
    have p := List.pairwise_cons.1 hp
    have p' := List.pairwise_cons.1 hp'
    have hab : a = b := by
      rcases List.mem_cons.1 ((h a).1 (by simp)) with k | k
      · exact k
      · rcases List.mem_cons.1 ((h b).2 (by simp)) with q | q
        · exact q.symm
        · exact ((p.1 b q).trans (p'.1 a k)).irr.elim
    subst hab
    rw [rise_uniq p.2 p'.2 (fun q => ?_)]
    constructor
    · intro hq
      rcases List.mem_cons.1 ((h q).1 (List.mem_cons_of_mem _ hq)) with k | k
      · subst k; exact (p.1 q hq).irr.elim
      · exact k
    · intro hq
      rcases List.mem_cons.1 ((h q).2 (List.mem_cons_of_mem _ hq)) with k | k
      · subst k; exact (p'.1 q hq).irr.elim
      · exact k
/-- both chains of points in their order -/
structure Hul (S L U : List (Int × Int)) : Prop where
  low : Chn S L
  up : Chn (S.map negP) (U.map negP)
theorem hul_of {s : List (Int × Int)} (h : s.Pairwise lxP) (h1 : 1 ≤ s.length) : Hul s (stk s s.length) (stk s.reverse s.reverse.length) := by
  rw [stk_all, stk_all]
  cases s with
  | nil => simp at h1
  | cons a t =>
    refine ⟨chn_of h, ?_⟩
    have hr : ((a :: t).reverse.map negP).Pairwise lxP := by
      rw [List.pairwise_map]
      exact List.pairwise_reverse.2 (h.imp (fun k => lxP_neg.2 k))
    cases hx : (a :: t).reverse with
    | nil => simp at hx
    | cons b r =>
      rw [hx, List.map_cons] at hr
      have := chn_of hr
      have e : chS ([] : List (Int × Int)) (negP b :: r.map negP) = (chS [] (b :: r)).map negP := chS_map (b :: r) []
      rw [e] at this
      have hmem : ∀ p, p ∈ negP b :: r.map negP ↔ p ∈ (a :: t).map negP := fun p => by
        rw [← List.map_cons, ← hx, List.map_reverse, List.mem_reverse]
      refine this.less (fun p hp => (hmem p).2 hp) (fun p hp => (hmem p).1 (this.sub p hp))
/-- no hull but this one -/
theorem Hul.uniq {S L U L' U' : List (Int × Int)} (h : Hul S L U) (h' : Hul S L' U') : L = L' ∧ U = U' := by
  refine ⟨h.low.uniq h'.low, ?_⟩
  have := h.up.uniq h'.up
  exact (List.map_inj_right (fun a b => negP_inj)).1 this
theorem Hul.less {S S' L U : List (Int × Int)} (h : Hul S L U) (h1 : ∀ p ∈ S', p ∈ S) (h2 : ∀ p ∈ L, p ∈ S') (h3 : ∀ p ∈ U, p ∈ S') : Hul S' L U := by
  refine ⟨h.low.less h1 h2, h.up.less (fun p hp => ?_) (fun p hp => ?_)⟩
  · obtain ⟨q, hq, rfl⟩ := List.mem_map.1 hp; exact List.mem_map.2 ⟨q, h1 q hq, rfl⟩
  · obtain ⟨q, hq, rfl⟩ := List.mem_map.1 hp; exact List.mem_map.2 ⟨q, h3 q hq, rfl⟩
theorem getD_map_neg {l : List (Int × Int)} {i : Nat} : (l.map negP).getD i (0, 0) = negP (l.getD i (0, 0)) := by
  rw [List.getD_eq_getElem?_getD, List.getElem?_map, List.getD_eq_getElem?_getD]
  cases l[i]? with
  | none => rfl
  | some x => rfl
section
variable {S L U : List (Int × Int)} (h : Hul S L U)
include h
theorem Hul.lowL {j : Nat} (hj : j + 1 < L.length) {p : Int × Int} (hp : p ∈ S) : 0 ≤ crP (L.getD (j + 1) (0, 0)) (L.getD j (0, 0)) p := h.low.lf.at hj p hp
theorem Hul.upL {j : Nat} (hj : j + 1 < U.length) {p : Int × Int} (hp : p ∈ S) : 0 ≤ crP (U.getD (j + 1) (0, 0)) (U.getD j (0, 0)) p := by
  have := h.up.lf.at (j := j) (by simpa using hj) (negP p) (List.mem_map.2 ⟨p, hp, rfl⟩)
  rw [getD_map_neg, getD_map_neg, crP_neg] at this; exact this
theorem Hul.upT {j : Nat} (hj : j + 2 < U.length) : 0 < crP (U.getD (j + 2) (0, 0)) (U.getD (j + 1) (0, 0)) (U.getD j (0, 0)) := by
  have := h.up.tr.at (j := j) (by simpa using hj)
  rw [getD_map_neg, getD_map_neg, getD_map_neg, crP_neg] at this; exact this
theorem Hul.upD {j : Nat} (hj : j + 1 < U.length) : lxP (U.getD j (0, 0)) (U.getD (j + 1) (0, 0)) := by
  have := h.up.ds.at (j := j) (by simpa using hj)
  rw [getD_map_neg, getD_map_neg, lxP_neg] at this; exact this
theorem Hul.posL : 1 ≤ L.length := by obtain ⟨c, r, e, _⟩ := h.low.tp; rw [e]; simp
theorem Hul.posU : 1 ≤ U.length := by
  obtain ⟨c, r, e, _⟩ := h.up.tp
  have : (U.map negP).length = (c :: r).length := by rw [e]
  simp at this; omega
theorem Hul.top : L.getD 0 (0, 0) ∈ S ∧ ∀ p ∈ S, p = L.getD 0 (0, 0) ∨ lxP p (L.getD 0 (0, 0)) := by
  obtain ⟨c, r, e, k⟩ := h.low.tp
  subst e
  exact ⟨h.low.sub c (by simp), k⟩
theorem Hul.bot : L.getD (L.length - 1) (0, 0) ∈ S ∧ ∀ p ∈ S, p = L.getD (L.length - 1) (0, 0) ∨ lxP (L.getD (L.length - 1) (0, 0)) p := by
  obtain ⟨z, e, k⟩ := h.low.bt
  have hp := h.posL
  rw [List.getLast?_eq_getElem?, List.getElem?_eq_getElem (by omega), Option.some.injEq] at e
  rw [getD_lt (by omega), e]
  exact ⟨h.low.sub z (e ▸ List.getElem_mem _), k⟩
theorem Hul.upS {p : Int × Int} (hp : p ∈ U) : p ∈ S := by
  have := h.up.sub (negP p) (List.mem_map.2 ⟨p, hp, rfl⟩)
  obtain ⟨q, hq, e⟩ := List.mem_map.1 this
  exact negP_inj e ▸ hq
/-- the upper chain begins where the lower one ends, and ends where it begins -/
theorem Hul.utop : U.getD 0 (0, 0) = L.getD (L.length - 1) (0, 0) := by
  obtain ⟨c, r, e, k⟩ := h.up.tp
  have hp := h.posU
  have e0 : negP (U.getD 0 (0, 0)) = c := by rw [← getD_map_neg, e]; rfl
  have hU : U.getD 0 (0, 0) ∈ S := h.upS (by rw [getD_lt hp]; exact List.getElem_mem _)
  rcases h.bot.2 _ hU with q | q
  · exact q
  · have := k (negP (L.getD (L.length - 1) (0, 0))) (List.mem_map.2 ⟨_, h.bot.1, rfl⟩)
    rw [← e0] at this
    rcases this with g | g
    · exact (negP_inj g).symm
    · exact (q.trans (lxP_neg.1 g)).irr.elim
theorem Hul.ubot : U.getD (U.length - 1) (0, 0) = L.getD 0 (0, 0) := by
  obtain ⟨z, e, k⟩ := h.up.bt
  have hp := h.posU
  rw [List.getLast?_eq_getElem?, List.getElem?_map, List.length_map, List.getElem?_eq_getElem (by omega)] at e
  have e0 : negP (U.getD (U.length - 1) (0, 0)) = z := by rw [getD_lt (by omega)]; simpa using e
  have hU : U.getD (U.length - 1) (0, 0) ∈ S := h.upS (by rw [getD_lt (by omega)]; exact List.getElem_mem _)
  rcases h.top.2 _ hU with q | q
  · exact q
  · have := k (negP (L.getD 0 (0, 0))) (List.mem_map.2 ⟨_, h.top.1, rfl⟩)
    rw [← e0] at this
    rcases this with g | g
    · exact (negP_inj g).symm
    · exact (q.trans (lxP_neg.1 g)).irr.elim
/-- the corners: the lower chain to the right, the upper one back -/
def ring2 (L U : List (Int × Int)) : List (Int × Int) := L.tail.reverse ++ U.tail.reverse
omit h in
theorem ring2_len : (ring2 L U).length = (L.length - 1) + (U.length - 1) := by unfold ring2; simp
omit h in
theorem tail_rev {C : List (Int × Int)} {i : Nat} (hi : i < C.length - 1) : C.tail.reverse.getD i (0, 0) = C.getD (C.length - 1 - i) (0, 0) := by
  rw [getD_lt (by simpa using hi), List.getElem_reverse, List.getElem_tail, getD_lt (by omega)]
  congr 1
  simp only [List.length_tail]; omega
/-- the place of a corner -/
def cnr (L U : List (Int × Int)) (i : Nat) : Int × Int := if i ≤ L.length - 1 then L.getD (L.length - 1 - i) (0, 0) else U.getD (U.length - 1 - (i - (L.length - 1))) (0, 0)
theorem Hul.ring_at {i : Nat} (hi : i < (ring2 L U).length) : (ring2 L U).getD i (0, 0) = cnr L U i := by
  rw [ring2_len] at hi
  unfold cnr ring2
  have hp := h.posL
  by_cases c : i < L.length - 1
  · rw [if_pos (by omega), List.getD_eq_getElem?_getD, List.getElem?_append_left (by simpa using c), ← List.getD_eq_getElem?_getD, tail_rev c]
  · have e : ((L.tail.reverse ++ U.tail.reverse).getD i (0, 0)) = U.getD (U.length - 1 - (i - (L.length - 1))) (0, 0) := by
      rw [List.getD_eq_getElem?_getD, List.getElem?_append_right (by simp; omega), ← List.getD_eq_getElem?_getD]
      rw [show i - L.tail.reverse.length = i - (L.length - 1) by simp, tail_rev (by omega)]
    rw [e]
    split
    · have : i = L.length - 1 := by omega
      subst this
      rw [Nat.sub_self, Nat.sub_zero, h.ubot]
    · rfl
theorem Hul.two (h2 : 2 ≤ L.length) : 2 ≤ U.length := by
  rcases Nat.lt_or_ge U.length 2 with c | c
  · have hp := h.posU
    have e := h.utop
    have e2 := h.ubot
    rw [show U.length - 1 = 0 by omega, e] at e2
    -- the lowest one is the highest one
    have hd := h.low.ds.at (j := 0) (by omega)
    have hb := h.bot.2 (L.getD 1 (0, 0)) (h.low.sub _ (by rw [getD_lt (by omega)]; exact List.getElem_mem _))
    rw [e2] at hb
    rcases hb with k | k
    · rw [k] at hd; exact hd.irr.elim
    · exact (hd.trans k).irr.elim
  · exact c
theorem Hul.cnr_end (h2 : 2 ≤ L.length) : cnr L U ((ring2 L U).length) = cnr L U 0 := by
  have hu := h.two h2
  rw [ring2_len]
  unfold cnr
  rw [if_neg (by omega), if_pos (by omega), show U.length - 1 - (L.length - 1 + (U.length - 1) - (L.length - 1)) = 0 by omega, h.utop, Nat.sub_zero]
/-- from a corner to the next one -/
theorem Hul.next (h2 : 2 ≤ L.length) {i : Nat} (hi : i < (ring2 L U).length) : (ring2 L U).getD ((i + 1) % (ring2 L U).length) (0, 0) = cnr L U (i + 1) := by
  have hu := h.two h2
  by_cases c : i + 1 = (ring2 L U).length
  · rw [c, Nat.mod_self, h.ring_at (by omega), h.cnr_end h2]
  · rw [Nat.mod_eq_of_lt (by omega), h.ring_at (by omega)]
theorem Hul.edge (h2 : 2 ≤ L.length) {i : Nat} (hi : i < (ring2 L U).length) {p : Int × Int} (hp : p ∈ S) : 0 ≤ crP (cnr L U i) (cnr L U (i + 1)) p := by
  have hu := h.two h2
  rw [ring2_len] at hi
  unfold cnr
  by_cases c : i < L.length - 1
  · rw [if_pos (by omega), if_pos (by omega)]
    have := h.lowL (j := L.length - 1 - (i + 1)) (by omega) hp
    rwa [show L.length - 1 - (i + 1) + 1 = L.length - 1 - i by omega] at this
  · rw [if_neg (show ¬ i + 1 ≤ L.length - 1 by omega)]
    have := h.upL (j := U.length - 1 - (i + 1 - (L.length - 1))) (by omega) hp
    rw [show U.length - 1 - (i + 1 - (L.length - 1)) + 1 = U.length - 1 - (i - (L.length - 1)) by omega] at this
    split
    · have e : i = L.length - 1 := by omega
      subst e
      rw [Nat.sub_self, Nat.sub_zero, h.ubot] at this
      rw [Nat.sub_self]; exact this
    · exact this
omit h in
/-- at the outermost point: the two edges are not on one line, unless all is -/
theorem joint {x y z p : Int × Int} (hx : lxP x y) (hz : lxP z y) (h0 : crP x y z = 0) (h1 : 0 ≤ crP x y p) (h2 : 0 ≤ crP y z p) : crP x y p = 0 ∧ crP y z p = 0 := by
  have e1 : (y.1 - x.1) * crP y z p + (y.1 - z.1) * crP x y p = -((p.1 - y.1) * crP x y z) := by unfold crP crs; grind
  have e2 : (y.2 - x.2) * crP y z p + (y.2 - z.2) * crP x y p = -((p.2 - y.2) * crP x y z) := by unfold crP crs; grind
  rw [h0, Int.mul_zero] at e1 e2
  unfold lxP at hx hz
  generalize crP y z p = Y at *
  generalize crP x y p = X at *
  have n1 : 0 ≤ (y.1 - x.1) * Y := mulnnH (by omega) h2
  have n2 : 0 ≤ (y.1 - z.1) * X := mulnnH (by omega) h1
  have z1 : (y.1 - x.1) * Y = 0 := by omega
  have z2 : (y.1 - z.1) * X = 0 := by omega
  have m1 : 0 ≤ (y.2 - x.2) * Y := by
    rcases Int.mul_eq_zero.1 z1 with k | k
    · exact mulnnH (by omega) h2
    · rw [k, Int.mul_zero]; exact Int.le_refl _
  have m2 : 0 ≤ (y.2 - z.2) * X := by
    rcases Int.mul_eq_zero.1 z2 with k | k
    · exact mulnnH (by omega) h1
    · rw [k, Int.mul_zero]; exact Int.le_refl _
  have y1 : (y.2 - x.2) * Y = 0 := by omega
  have y2 : (y.2 - z.2) * X = 0 := by omega
  constructor
  · rcases Int.mul_eq_zero.1 z2 with k | k
    · exact (Int.mul_eq_zero.1 y2).resolve_left (by omega)
    · exact k
  · rcases Int.mul_eq_zero.1 z1 with k | k
    · exact (Int.mul_eq_zero.1 y1).resolve_left (by omega)
    · exact k
theorem Hul.memL {j : Nat} (hj : j < L.length) : L.getD j (0, 0) ∈ S := h.low.sub _ (by rw [getD_lt hj]; exact List.getElem_mem _)
theorem Hul.memU {j : Nat} (hj : j < U.length) : U.getD j (0, 0) ∈ S := h.upS (by rw [getD_lt hj]; exact List.getElem_mem _)
/-- where the chains meet on the right, the turn is to the left -/
theorem Hul.right (h2 : 2 ≤ L.length) (h3 : 2 < (ring2 L U).length) : 0 < crP (L.getD 1 (0, 0)) (L.getD 0 (0, 0)) (U.getD (U.length - 2) (0, 0)) := by
  have hu := h.two h2
  rw [ring2_len] at h3
  have a := h.lowL (j := 0) (by omega) (h.memU (j := U.length - 2) (by omega))
  rw [Nat.zero_add] at a
  have hz := h.upD (j := U.length - 2) (by omega)
  rw [show U.length - 2 + 1 = U.length - 1 by omega, h.ubot] at hz
  have hx := h.low.ds.at (j := 0) (by omega)
  rcases Int.lt_or_eq_of_le a with k | k
  · exact k
  · exfalso
    have all : ∀ p ∈ S, crP (L.getD 1 (0, 0)) (L.getD 0 (0, 0)) p = 0 ∧ crP (L.getD 0 (0, 0)) (U.getD (U.length - 2) (0, 0)) p = 0 := fun p hp => by
      have u := h.upL (j := U.length - 2) (by omega) hp
      rw [show U.length - 2 + 1 = U.length - 1 by omega, h.ubot] at u
      exact joint hx hz k.symm (h.lowL (j := 0) (by omega) hp) u
    by_cases c : 3 ≤ L.length
    · have t := h.low.tr.at (j := 0) (by omega)
      have := (all _ (h.memL (j := 2) (by omega))).1
      rw [crP_rot] at t
      simp only [Nat.zero_add] at t
      omega
    · have t := h.upT (j := U.length - 3) (by omega)
      have := (all _ (h.memU (j := U.length - 3) (by omega))).2
      rw [show U.length - 3 + 2 = U.length - 1 by omega, show U.length - 3 + 1 = U.length - 2 by omega, h.ubot] at t
      omega
theorem Hul.left (h2 : 2 ≤ L.length) (h3 : 2 < (ring2 L U).length) : 0 < crP (U.getD 1 (0, 0)) (U.getD 0 (0, 0)) (L.getD (L.length - 2) (0, 0)) := by
  have hu := h.two h2
  rw [ring2_len] at h3
  have a := h.upL (j := 0) (by omega) (h.memL (j := L.length - 2) (by omega))
  rw [Nat.zero_add] at a
  have hz := h.low.ds.at (j := L.length - 2) (by omega)
  rw [show L.length - 2 + 1 = L.length - 1 by omega, ← h.utop] at hz
  have hx := h.upD (j := 0) (by omega)
  rcases Int.lt_or_eq_of_le a with k | k
  · exact k
  · exfalso
    have all : ∀ p ∈ S, crP (U.getD 1 (0, 0)) (U.getD 0 (0, 0)) p = 0 ∧ crP (U.getD 0 (0, 0)) (L.getD (L.length - 2) (0, 0)) p = 0 := fun p hp => by
      have u := h.lowL (j := L.length - 2) (by omega) hp
      rw [show L.length - 2 + 1 = L.length - 1 by omega, ← h.utop] at u
      have v := h.upL (j := 0) (by omega) hp
      have q := joint (x := negP (U.getD 1 (0, 0))) (y := negP (U.getD 0 (0, 0))) (z := negP (L.getD (L.length - 2) (0, 0))) (p := negP p) (lxP_neg.2 hx) (lxP_neg.2 hz) (by rw [crP_neg]; exact k.symm) (by rw [crP_neg]; exact v) (by rw [crP_neg]; exact u)
      rw [crP_neg, crP_neg] at q; exact q
    by_cases c : 3 ≤ U.length
    · have t := h.upT (j := 0) (by omega)
      have := (all _ (h.memU (j := 2) (by omega))).1
      rw [crP_rot] at t
      simp only [Nat.zero_add] at t
      omega
    · have t := h.low.tr.at (j := L.length - 3) (by omega)
      have := (all _ (h.memL (j := L.length - 3) (by omega))).2
      rw [show L.length - 3 + 2 = L.length - 1 by omega, show L.length - 3 + 1 = L.length - 2 by omega, ← h.utop] at t
      omega
/-- at each corner the turn is to the left -/
theorem Hul.turn (h2 : 2 ≤ L.length) (h3 : 2 < (ring2 L U).length) {i : Nat} (hi : i < (ring2 L U).length) : 0 < crP ((ring2 L U).getD i (0, 0)) ((ring2 L U).getD ((i + 1) % (ring2 L U).length) (0, 0)) ((ring2 L U).getD ((i + 2) % (ring2 L U).length) (0, 0)) := by
  have hu := h.two h2
  have hr := h.right h2 h3
  have hl := h.left h2 h3
  have hn := ring2_len (L := L) (U := U)
  rw [h.ring_at hi, h.next h2 hi]
  by_cases c : i + 1 < (ring2 L U).length
  · have e := h.next h2 c
    rw [e]
    clear e
    unfold cnr
    by_cases c1 : i + 2 ≤ L.length - 1
    · rw [if_pos (by omega), if_pos (by omega), if_pos (by omega)]
      have := h.low.tr.at (j := L.length - 1 - (i + 2)) (by omega)
      rwa [show L.length - 1 - (i + 2) + 2 = L.length - 1 - i by omega, show L.length - 1 - (i + 2) + 1 = L.length - 1 - (i + 1) by omega] at this
    · by_cases c2 : i + 1 ≤ L.length - 1
      · rw [if_pos (by omega), if_pos (by omega), if_neg (by omega), show L.length - 1 - i = 1 by omega, show L.length - 1 - (i + 1) = 0 by omega, show U.length - 1 - (i + 1 + 1 - (L.length - 1)) = U.length - 2 by omega]
        exact hr
      · rw [if_neg (show ¬ i + 1 ≤ L.length - 1 by omega), if_neg (show ¬ i + 1 + 1 ≤ L.length - 1 by omega)]
        have := h.upT (j := U.length - 1 - (i + 2 - (L.length - 1))) (by omega)
        rw [show U.length - 1 - (i + 2 - (L.length - 1)) + 2 = U.length - 1 - (i - (L.length - 1)) by omega, show U.length - 1 - (i + 2 - (L.length - 1)) + 1 = U.length - 1 - (i + 1 - (L.length - 1)) by omega] at this
        split
        · have e : i = L.length - 1 := by omega
          rw [e, Nat.sub_self, Nat.sub_zero, h.ubot] at this
          rw [e, Nat.sub_self]; exact this
        · exact this
  · have ci : i + 1 = (ring2 L U).length := by omega
    rw [show i + 2 = (ring2 L U).length + 1 by omega, Nat.add_mod_left, Nat.mod_eq_of_lt (by omega), h.ring_at (by omega), ci, h.cnr_end h2]
    unfold cnr
    rw [if_pos (show 0 ≤ L.length - 1 by omega), if_pos (show 1 ≤ L.length - 1 by omega), Nat.sub_zero, ← h.utop, show L.length - 1 - 1 = L.length - 2 by omega]
    have e : (if i ≤ L.length - 1 then L.getD (L.length - 1 - i) (0, 0) else U.getD (U.length - 1 - (i - (L.length - 1))) (0, 0)) = U.getD 1 (0, 0) := by
      split
      · have e : i = L.length - 1 := by omega
        have e2 : U.length - 1 = 1 := by omega
        have := h.ubot
        rw [e2] at this
        rw [e, Nat.sub_self, this]
      · rw [show U.length - 1 - (i - (L.length - 1)) = 1 by omega]
    rw [e]; exact hl
end
end Go.Proofs.Ytomnkdlfmjdckaa.Am.Sp

set_option linter.unusedVariables false
set_option linter.unusedSimpArgs false
namespace Go.Proofs.Ytomnkdlfmjdckaa.Am.Sp
open Go
/-! Convex hulls: what the laws ask -/
theorem hullF_eq (ps : List (Int × Int)) : hullF ps = hullL (srd ps) := rfl
theorem hullF_two {ps : List (Int × Int)} (h : 2 ≤ (srd ps).length) : hullF ps = ring2 (stk (srd ps) (srd ps).length) (stk (srd ps).reverse (srd ps).reverse.length) := by
  rw [hullF_eq]; unfold hullL; rw [if_neg (by omega)]; rfl
theorem hullF_one {ps : List (Int × Int)} (h : (srd ps).length < 2) : hullF ps = srd ps := by
  rw [hullF_eq]; unfold hullL; rw [if_pos h]
theorem Hul.longL {S L U : List (Int × Int)} (h : Hul S L U) {a b : Int × Int} (ha : a ∈ S) (hb : b ∈ S) (hne : a ≠ b) : 2 ≤ L.length := by
  rcases Nat.lt_or_ge L.length 2 with c | c
  · have hp := h.posL
    have e : L.length - 1 = 0 := by omega
    have key : ∀ p ∈ S, p = L.getD 0 (0, 0) := fun p hp => by
      have t := h.top.2 p hp
      have u := h.bot.2 p hp
      rw [e] at u
      rcases t with t | t
      · exact t
      · rcases u with u | u
        · exact u
        · exact (t.trans u).irr.elim
    exact (hne ((key a ha).trans (key b hb).symm)).elim
  · exact c
theorem two_ne {s : List (Int × Int)} (h : s.Pairwise lxP) (h2 : 2 ≤ s.length) : ∃ a b, a ∈ s ∧ b ∈ s ∧ a ≠ b := by
  match s, h2 with
  | a :: b :: r, _ =>
    have := (List.pairwise_cons.1 h).1 b (by simp)
    exact ⟨a, b, by simp, by simp, fun e => (e ▸ this).irr⟩
theorem hul_srd {ps : List (Int × Int)} (h : 2 ≤ (srd ps).length) : Hul (srd ps) (stk (srd ps) (srd ps).length) (stk (srd ps).reverse (srd ps).reverse.length) ∧ 2 ≤ (stk (srd ps) (srd ps).length).length := by
  have q := hul_of (srd_rise ps) (by omega)
  obtain ⟨a, b, ha, hb, hne⟩ := two_ne (srd_rise ps) h
  exact ⟨q, q.longL ha hb hne⟩
theorem srd_pos {ps : List (Int × Int)} (h : 1 ≤ ps.length) : 1 ≤ (srd ps).length := by
  cases ps with
  | nil => simp at h
  | cons a r =>
    have : a ∈ srd (a :: r) := srd_mem.2 (by simp)
    cases hs : srd (a :: r) with
    | nil => rw [hs] at this; simp at this
    | cons _ _ => simp
theorem srd_len (ps : List (Int × Int)) : (srd ps).length ≤ ps.length := by
  unfold srd; have := ddp_length (srtP ps); rw [srtP_len] at this; exact this
theorem mem_getD' {ps : List (Int × Int)} {i : Nat} (h : i < ps.length) : ps.getD i (0, 0) ∈ ps := by rw [getD_lt h]; exact List.getElem_mem h
theorem hull_sub {ps : List (Int × Int)} {q : Int × Int} (h : q ∈ hullF ps) : q ∈ ps := by
  rcases Nat.lt_or_ge (srd ps).length 2 with c | c
  · rw [hullF_one c] at h; exact srd_mem.1 h
  · rw [hullF_two c] at h
    unfold ring2 at h
    rcases List.mem_append.1 h with k | k
    · exact srd_mem.1 (stk_mem (Nat.le_refl _) (List.mem_of_mem_tail (List.mem_reverse.1 k)))
    · exact srd_mem.1 (List.mem_reverse.1 (stk_mem (Nat.le_refl _) (List.mem_of_mem_tail (List.mem_reverse.1 k))))
theorem hull_len {ps : List (Int × Int)} (h : 1 ≤ ps.length) : 1 ≤ (hullF ps).length ∧ (hullF ps).length ≤ 2 * ps.length := by
  have hp := srd_pos h
  have hl := srd_len ps
  rcases Nat.lt_or_ge (srd ps).length 2 with c | c
  · rw [hullF_one c]; omega
  · obtain ⟨q, q2⟩ := hul_srd c
    have a := stk_len (srd ps) (srd ps).length
    have b := stk_len (srd ps).reverse (srd ps).reverse.length
    rw [List.length_reverse] at b
    rw [hullF_two c, ring2_len]
    rw [List.length_reverse]
    omega
theorem hull_turn {ps : List (Int × Int)} (h3 : 2 < (hullF ps).length) {i : Nat} (hi : i < (hullF ps).length) : 0 < crP ((hullF ps).getD i (0, 0)) ((hullF ps).getD ((i + 1) % (hullF ps).length) (0, 0)) ((hullF ps).getD ((i + 2) % (hullF ps).length) (0, 0)) := by
  rcases Nat.lt_or_ge (srd ps).length 2 with c | c
  · rw [hullF_one c] at h3; omega
  · obtain ⟨q, q2⟩ := hul_srd c
    rw [hullF_two c] at *
    exact q.turn q2 h3 hi
/-- all points are left of all edges -/
theorem hull_edge {ps : List (Int × Int)} (h2 : 2 ≤ (hullF ps).length) {i : Nat} (hi : i < (hullF ps).length) {p : Int × Int} (hp : p ∈ ps) : 0 ≤ crP ((hullF ps).getD i (0, 0)) ((hullF ps).getD ((i + 1) % (hullF ps).length) (0, 0)) p := by
  rcases Nat.lt_or_ge (srd ps).length 2 with c | c
  · rw [hullF_one c] at h2; omega
  · obtain ⟨q, q2⟩ := hul_srd c
    rw [hullF_two c] at *
    rw [q.ring_at hi, q.next q2 hi]
    exact q.edge q2 hi (srd_mem.2 hp)
theorem hasL_all {h : List (Int × Int)} {x y : Int} (hc : ∀ i, i < h.length → 0 ≤ crs (h.getD i (0, 0)).1 (h.getD i (0, 0)).2 (h.getD ((i + 1) % h.length) (0, 0)).1 (h.getD ((i + 1) % h.length) (0, 0)).2 x y) : ∀ (k i : Nat), i + k = h.length → hasL h x y i = true
  | 0, i, e => hasL_end (by omega)
  | k + 1, i, e => by rw [hasL, if_pos (by omega), if_neg (by have := hc i (by omega); omega)]; exact hasL_all hc k (i + 1) (by omega)
/-- on one line, and between -/
theorem on_between {a b p : Int × Int} (hab : lxP a b) (h0 : crP a b p = 0) (h1 : p = a ∨ lxP a p) (h2 : p = b ∨ lxP p b) : onb a.1 a.2 b.1 b.2 p.1 p.2 = true := by
  rw [onb_iff]
  refine ⟨h0, ?_⟩
  have e : dot p.1 p.2 a.1 a.2 b.1 b.2 = -((p.1 - a.1) * (b.1 - p.1) + (p.2 - a.2) * (b.2 - p.2)) := by unfold dot; grind
  have c : (b.1 - a.1) * (p.2 - a.2) = (b.2 - a.2) * (p.1 - a.1) := by rw [crP_vec] at h0; omega
  have w1 : 0 ≤ p.1 - a.1 ∧ 0 ≤ b.1 - p.1 := by
    constructor
    · rcases h1 with k | k
      · subst k; omega
      · unfold lxP at k; omega
    · rcases h2 with k | k
      · subst k; omega
      · unfold lxP at k; omega
  have m1 := mulnnH w1.1 w1.2
  rw [e]
  rcases hab with hd | ⟨hd, hd2⟩
  · -- the second coordinate in proportion
    have sq : (b.1 - a.1) * (b.1 - a.1) * ((p.2 - a.2) * (b.2 - p.2)) = (b.2 - a.2) * (b.2 - a.2) * ((p.1 - a.1) * (b.1 - p.1)) := by
      have f1 : (b.1 - a.1) * (b.2 - p.2) = (b.2 - a.2) * (b.1 - p.1) := by grind
      calc (b.1 - a.1) * (b.1 - a.1) * ((p.2 - a.2) * (b.2 - p.2)) = ((b.1 - a.1) * (p.2 - a.2)) * ((b.1 - a.1) * (b.2 - p.2)) := by grind
        _ = ((b.2 - a.2) * (p.1 - a.1)) * ((b.2 - a.2) * (b.1 - p.1)) := by rw [c, f1]
        _ = _ := by grind
    have pos : 0 < (b.1 - a.1) * (b.1 - a.1) := Int.mul_pos (by omega) (by omega)
    have nn : 0 ≤ (b.2 - a.2) * (b.2 - a.2) * ((p.1 - a.1) * (b.1 - p.1)) := mulnnH (sqr_nonneg _) m1
    have : 0 ≤ (p.2 - a.2) * (b.2 - p.2) := by
      apply Classical.byContradiction
      intro k
      have := Int.mul_neg_of_pos_of_neg pos (show (p.2 - a.2) * (b.2 - p.2) < 0 by omega)
      omega
    omega
  · have z1 : p.1 - a.1 = 0 := by omega
    have w2 : 0 ≤ p.2 - a.2 ∧ 0 ≤ b.2 - p.2 := by
      constructor
      · rcases h1 with k | k
        · subst k; omega
        · unfold lxP at k; omega
      · rcases h2 with k | k
        · subst k; omega
        · unfold lxP at k; omega
    have m2 := mulnnH w2.1 w2.2
    omega
theorem hull_has {ps : List (Int × Int)} {p : Int × Int} (hp : p ∈ ps) : hasH (hullF ps) p.1 p.2 = true := by
  have h1 : 1 ≤ ps.length := by cases ps with
    | nil => simp at hp
    | cons a r => simp
  have hl := hull_len h1
  rcases Nat.lt_or_ge (hullF ps).length 2 with c | c
  · rw [hasH_1 (by omega)]
    have : p = (hullF ps).getD 0 (0, 0) := by
      rcases Nat.lt_or_ge (srd ps).length 2 with g | g
      · have hm := srd_mem.2 hp
        rw [hullF_one g] at *
        match hs : srd ps, hm, c with
        | [a], hm, _ => exact List.mem_singleton.1 hm
      · obtain ⟨q, q2⟩ := hul_srd g
        have := q.two q2
        rw [hullF_two g, ring2_len] at c; omega
    rw [← this]; simp
  · rcases Nat.lt_or_ge 2 (hullF ps).length with d | d
    · rw [hasH_3 d]
      exact hasL_all (fun i hi => hull_edge (ps := ps) (i := i) c hi hp) (hullF ps).length 0 (by omega)
    · have e2 : (hullF ps).length = 2 := by omega
      rw [hasH_2 e2]
      have g : 2 ≤ (srd ps).length := by
        rcases Nat.lt_or_ge (srd ps).length 2 with g | g
        · rw [hullF_one g] at c; omega
        · exact g
      obtain ⟨q, q2⟩ := hul_srd g
      have a0 := hull_edge (i := 0) c (by omega) hp
      have a1 := hull_edge (i := 1) c (by omega) hp
      rw [e2] at a0 a1
      simp only [Nat.zero_add, Nat.reduceMod, Nat.reduceAdd] at a0 a1
      have ee : crP ((hullF ps).getD 1 (0, 0)) ((hullF ps).getD 0 (0, 0)) p = -crP ((hullF ps).getD 0 (0, 0)) ((hullF ps).getD 1 (0, 0)) p := by unfold crP crs; grind
      have u2 := q.two q2
      have hn : ring2 (stk (srd ps) (srd ps).length) (stk (srd ps).reverse (srd ps).reverse.length) = hullF ps := (hullF_two g).symm
      have hn2 := ring2_len (L := stk (srd ps) (srd ps).length) (U := stk (srd ps).reverse (srd ps).reverse.length)
      rw [hn] at hn2
      have r0 := q.ring_at (i := 0) (by rw [hn]; omega)
      have r1 := q.ring_at (i := 1) (by rw [hn]; omega)
      rw [hn] at r0 r1
      unfold cnr at r0 r1
      rw [if_pos (by omega), Nat.sub_zero] at r0
      rw [if_pos (by omega), show (stk (srd ps) (srd ps).length).length - 1 - 1 = 0 by omega] at r1
      refine on_between ?_ (by omega) ?_ ?_
      · rw [r0, r1, show (stk (srd ps) (srd ps).length).length - 1 = 0 + 1 by omega]; exact q.low.ds.at (by omega)
      · rw [r0]; exact q.bot.2 p (srd_mem.2 hp)
      · rw [r1]; exact q.top.2 p (srd_mem.2 hp)
theorem srd_self {s : List (Int × Int)} (h : s.Pairwise lxP) : srd s = s := rise_uniq (srd_rise s) h (fun p => srd_mem)
theorem hull_idem (ps : List (Int × Int)) : hullF (hullF ps) = hullF ps := by
  rcases Nat.lt_or_ge (srd ps).length 2 with c | c
  · have e : srd (srd ps) = srd ps := srd_self (srd_rise ps)
    rw [hullF_one c, hullF_one (by rw [e]; exact c), e]
  · obtain ⟨q, q2⟩ := hul_srd c
    have u2 := q.two q2
    have hL : ∀ p ∈ stk (srd ps) (srd ps).length, p ∈ hullF ps := fun p hp => by
      rw [hullF_two c]; unfold ring2
      have top : ∀ C : List (Int × Int), p ∈ C → p = C.getD 0 (0, 0) ∨ p ∈ C.tail := fun C h => by
        cases C with
        | nil => simp at h
        | cons a r => rcases List.mem_cons.1 h with k | k; exact .inl k; exact .inr k
      rcases top _ hp with k | k
      · refine List.mem_append.2 (.inr (List.mem_reverse.2 ?_))
        rw [k, ← q.ubot, getD_lt (by omega)]
        have : (stk (srd ps).reverse (srd ps).reverse.length)[(stk (srd ps).reverse (srd ps).reverse.length).length - 1]'(by omega) = (stk (srd ps).reverse (srd ps).reverse.length).tail[(stk (srd ps).reverse (srd ps).reverse.length).length - 2]'(by rw [List.length_tail]; omega) := by
          rw [List.getElem_tail]; congr 1; omega
        rw [this]; exact List.getElem_mem _
      · exact List.mem_append.2 (.inl (List.mem_reverse.2 k))
    have hU : ∀ p ∈ stk (srd ps).reverse (srd ps).reverse.length, p ∈ hullF ps := fun p hp => by
      rw [hullF_two c]; unfold ring2
      have top : ∀ C : List (Int × Int), p ∈ C → p = C.getD 0 (0, 0) ∨ p ∈ C.tail := fun C h => by
        cases C with
        | nil => simp at h
        | cons a r => rcases List.mem_cons.1 h with k | k; exact .inl k; exact .inr k
      rcases top _ hp with k | k
      · refine List.mem_append.2 (.inl (List.mem_reverse.2 ?_))
        rw [k, q.utop, getD_lt (by omega)]
        have : (stk (srd ps) (srd ps).length)[(stk (srd ps) (srd ps).length).length - 1]'(by omega) = (stk (srd ps) (srd ps).length).tail[(stk (srd ps) (srd ps).length).length - 2]'(by rw [List.length_tail]; omega) := by
          rw [List.getElem_tail]; congr 1; omega
        rw [this]; exact List.getElem_mem _
      · exact List.mem_append.2 (.inr (List.mem_reverse.2 k))
    have q' := q.less (S' := srd (hullF ps)) (fun p hp => srd_mem.2 (hull_sub (srd_mem.1 hp))) (fun p hp => srd_mem.2 (hL p hp)) (fun p hp => srd_mem.2 (hU p hp))
    have c' : 2 ≤ (srd (hullF ps)).length := by
      have d := q.low.ds.at (j := 0) (by omega)
      have m0 := srd_mem.2 (hL _ (mem_getD' (i := 0) (ps := stk (srd ps) (srd ps).length) (by omega)))
      have m1 := srd_mem.2 (hL _ (mem_getD' (i := 0 + 1) (ps := stk (srd ps) (srd ps).length) (by omega)))
      match hs : srd (hullF ps), m0, m1 with
      | [], m0, _ => simp at m0
      | [a], m0, m1 => rw [List.mem_singleton.1 m0, List.mem_singleton.1 m1] at d; exact d.irr.elim
      | a :: b :: r, _, _ => simp
    obtain ⟨e1, e2⟩ := (hul_srd c').1.uniq q'
    rw [hullF_two c', e1, e2, ← hullF_two c]
end Go.Proofs.Ytomnkdlfmjdckaa.Am.Sp

