import Derived.Test.YtngmegnaohmapaaDoorRg4
import Derived.Test.YtngmegnaohmapaaDoorAm19
set_option linter.unusedVariables false
set_option linter.unusedSimpArgs false
namespace Go.Proofs.YtngmegnaohmapaaDoor.Am.Sp
open Go
/-! Rings of a few small points: moved, turned; twice the area -/
theorem getD_mem {ps : List (Int × Int)} {q : Int × Int} (h : q ∈ ps) : ∃ i, ps.getD i (0, 0) = q := by
  obtain ⟨i, hi, e⟩ := List.mem_iff_getElem.1 h
  exact ⟨i, by rw [getD_lt hi, e]⟩
theorem getD_map {f : Int × Int → Int × Int} {ps : List (Int × Int)} {i : Nat} (h : i < ps.length) : (ps.map f).getD i (0, 0) = f (ps.getD i (0, 0)) := by
  rw [getD_lt (by simpa using h), getD_lt h, List.getElem_map]
theorem take_snoc {f : Int × Int → Int × Int} {ps : List (Int × Int)} {i : Nat} (h : i < ps.length) : (ps.take (i + 1)).map f = (ps.take i).map f ++ [f (ps.getD i (0, 0))] := by
  rw [List.take_succ_eq_append_getElem h, List.map_append, getD_lt h]; rfl
theorem snoc_take {f : Int × Int → Int × Int} {ps : List (Int × Int)} {i : Nat} {l : List Value} (h : i < ps.length) (hl : ptc (f (ps.getD i (0, 0))) = l) : ((ps.take i).map f).flatMap ptc ++ l = ((ps.take (i + 1)).map f).flatMap ptc := by
  rw [take_snoc h, List.flatMap_append, ← hl]; simp
theorem one_take {f : Int × Int → Int × Int} {ps : List (Int × Int)} {l : List Value} (h : 0 < ps.length) (hl : ptc (f (ps.getD 0 (0, 0))) = l) : ((ps.take 1).map f).flatMap ptc = l := by
  have := snoc_take (f := f) (i := 0) h hl
  simpa using this.symm
/-- all coordinates are small -/
def Few (m : Int) (ps : List (Int × Int)) : Prop := ∀ i, (-m ≤ (ps.getD i (0, 0)).1 ∧ (ps.getD i (0, 0)).1 ≤ m) ∧ (-m ≤ (ps.getD i (0, 0)).2 ∧ (ps.getD i (0, 0)).2 ≤ m)
theorem few_of {m : Int} {ps : List (Int × Int)} (hm : 0 ≤ m) (h : ∀ q ∈ ps, (-m ≤ q.1 ∧ q.1 ≤ m) ∧ (-m ≤ q.2 ∧ q.2 ≤ m)) : Few m ps := by
  intro i
  by_cases hi : i < ps.length
  · rw [getD_lt hi]; exact h _ (List.getElem_mem hi)
  · simp [List.getD, List.getElem?_eq_none (Nat.le_of_not_lt hi)]; omega
theorem few_mem {m : Int} {ps : List (Int × Int)} (h : Few m ps) {q : Int × Int} (hq : q ∈ ps) : (-m ≤ q.1 ∧ q.1 ≤ m) ∧ (-m ≤ q.2 ∧ q.2 ≤ m) := by
  obtain ⟨i, e⟩ := getD_mem hq
  rw [← e]; exact h i
theorem limp_few {q : Int × Int} (h : (-1048576 ≤ q.1 ∧ q.1 ≤ 1048576) ∧ (-1048576 ≤ q.2 ∧ q.2 ≤ 1048576)) : limp q = q := by
  unfold limp; rw [lim_id h.1.1 h.1.2, lim_id h.2.1 h.2.2]
theorem map_limp {m : Int} {ps : List (Int × Int)} (hm : m ≤ 1048576) (h : Few m ps) : ps.map limp = ps := by
  have : ps.map limp = ps.map id := List.map_congr_left fun q hq => by have := few_mem h hq; exact limp_few (by omega)
  rw [this, List.map_id]
theorem map_limp_f {m : Int} {f : Int × Int → Int × Int} {ps : List (Int × Int)} (h : ∀ q ∈ ps, limp (f q) = f q) : (ps.map f).map limp = ps.map f := by
  rw [List.map_map]; exact List.map_congr_left h
theorem hasv_lim {ps : List (Int × Int)} (h0 : 0 < ps.length) (hs : ps.map limp = ps) (x y : Int) : hasF ps x y 0 (-1) = hasv (x, y) (ps.getD 0 (0, 0)) (ps.drop 1 ++ [ps.getD 0 (0, 0)]) := by
  cases ps with
  | nil => simp at h0
  | cons a t =>
    rw [hasF_eq]
    rw [List.map_cons, List.cons.injEq] at hs
    rw [hs.1, hs.2]; rfl
theorem lastp_snoc (a b : Int × Int) : ∀ (l : List (Int × Int)) , lastp a (l ++ [b]) = b := by
  intro l
  induction l generalizing a with
  | nil => rfl
  | cons c r ih => exact ih c
theorem has_mv {ps : List (Int × Int)} {a b c d : Int} (h0 : 0 < ps.length) (hf : Few 40 ps) (ha : -40 ≤ a ∧ a ≤ 40) (hb : -40 ≤ b ∧ b ≤ 40) (hc : -40 ≤ c ∧ c ≤ 40) (hd : -40 ≤ d ∧ d ≤ 40) :
    hasF ((ps.take ps.length).map (move2 (c, d))) (lim 1048576 (a + c)) (lim 1048576 (b + d)) 0 (-1) = hasF ps (lim 1048576 a) (lim 1048576 b) 0 (-1) := by
  rw [List.take_length, lim_id (by omega) (by omega), lim_id (by omega) (by omega), lim_id (by omega) (by omega), lim_id (by omega) (by omega)]
  rw [hasv_lim h0 (map_limp (by decide) hf), hasv_lim (by simpa using h0) (map_limp_f (m := 80) fun q hq => by have := few_mem hf hq; refine limp_few ?_; simp only [move2]; omega)]
  rw [getD_map h0, ← List.map_drop]
  have := has_move2 (c, d) (a, b) (ps.getD 0 (0, 0)) (ps.drop 1 ++ [ps.getD 0 (0, 0)])
  rw [List.map_append] at this
  exact this
theorem has_tn {ps : List (Int × Int)} {a b : Int} (h0 : 0 < ps.length) (hf : Few 40 ps) (ha : -40 ≤ a ∧ a ≤ 40) (hb : -40 ≤ b ∧ b ≤ 40) :
    hasF ((ps.take ps.length).map turn4) (lim 1048576 (0 - b)) (lim 1048576 a) 0 (-1) = hasF ps (lim 1048576 a) (lim 1048576 b) 0 (-1) := by
  rw [List.take_length, lim_id (n := 0 - b) (by omega) (by omega), lim_id (n := a) (by omega) (by omega), lim_id (n := b) (by omega) (by omega), Int.zero_sub]
  rw [hasv_lim h0 (map_limp (by decide) hf), hasv_lim (by simpa using h0) (map_limp_f (m := 80) fun q hq => by have := few_mem hf hq; refine limp_few ?_; simp only [turn4]; omega)]
  rw [getD_map h0, ← List.map_drop]
  have := has_turn4 (p := (a, b)) (lastp_snoc (ps.getD 0 (0, 0)) (ps.getD 0 (0, 0)) (ps.drop 1))
  rw [List.map_append] at this
  exact this
theorem on_start (a b c d : Int) : onb a b c d a b = true := by
  rw [onb_iff]; constructor
  · unfold crs; grind
  · unfold dot; simp
theorem has_first {ps : List (Int × Int)} (h0 : 0 < ps.length) : hasF ps (lim 1048576 (ps.getD 0 (0, 0)).1) (lim 1048576 (ps.getD 0 (0, 0)).2) 0 (-1) = 0 :=
  hasF_on h0 rfl (on_start _ _ _ _)
/-- twice the area, as the code adds it up: from the corner k on -/
def twF (ps : List (Int × Int)) (k : Nat) (s : Int) : Int :=
  if k + 1 < ps.length then twF ps (k + 1) (IntKind.wrap .i64 (s + crs (cA ps 0) (cB ps 0) (cA ps k) (cB ps k) (cA ps (k + 1)) (cB ps (k + 1)))) else s
termination_by ps.length - k
theorem twF_end {ps : List (Int × Int)} {k : Nat} {s : Int} (h : ¬ k + 1 < ps.length) : twF ps k s = s := by rw [twF, if_neg h]
theorem twF_step {ps : List (Int × Int)} {k : Nat} {s : Int} (h : k + 1 < ps.length) : twF ps (k + 1) (IntKind.wrap .i64 (s + crs (cA ps 0) (cB ps 0) (cA ps k) (cB ps k) (cA ps (k + 1)) (cB ps (k + 1)))) = twF ps k s := by
  conv => rhs; rw [twF, if_pos h]
theorem twF_congr {ps qs : List (Int × Int)} (hl : ps.length = qs.length) (h : ∀ k, k + 1 < ps.length → crs (cA ps 0) (cB ps 0) (cA ps k) (cB ps k) (cA ps (k + 1)) (cB ps (k + 1)) = crs (cA qs 0) (cB qs 0) (cA qs k) (cB qs k) (cA qs (k + 1)) (cB qs (k + 1))) :
    ∀ (m k : Nat) (s : Int), k + m = ps.length → twF ps k s = twF qs k s
  | 0, k, s, e => by rw [twF_end (by omega), twF_end (by omega)]
  | m + 1, k, s, e => by
    by_cases hk : k + 1 < ps.length
    · rw [← twF_step hk, ← twF_step (ps := qs) (by omega), h k hk]; exact twF_congr hl h m (k + 1) _ (by omega)
    · rw [twF_end hk, twF_end (by omega)]
theorem tw_tn {ps : List (Int × Int)} (h0 : 0 < ps.length) (hf : Few 40 ps) : twF ((ps.take ps.length).map turn4) 1 0 = twF ps 1 0 := by
  rw [List.take_length]
  refine twF_congr (by simp) (fun k hk => ?_) (ps.length - 1) 1 0 (by simp; omega)
  rw [List.length_map] at hk
  have e : ∀ i, i < ps.length → cA (ps.map turn4) i = -cB ps i ∧ cB (ps.map turn4) i = cA ps i := fun i hi => by
    unfold cA cB; rw [getD_map hi]
    have := hf i
    simp only [turn4]
    refine ⟨?_, trivial⟩
    rw [lim_id (by omega) (by omega), lim_id (by omega) (by omega)]
  rw [(e 0 h0).1, (e 0 h0).2, (e k (by omega)).1, (e k (by omega)).2, (e (k + 1) hk).1, (e (k + 1) hk).2]
  unfold crs; grind
/-- the rings that are drawn: a triangle, an L, an arrow, eight corners, a square -/
def rng (x y r s u v : Int) : List (Int × Int) :=
  if s = 1 then [(x + (0 - r), y + (0 - r)), (x + r, y + (u % (2 * r) - r)), (x + (v % (2 * r) - r), y + r)]
  else if s = 2 then [(x + (0 - r), y + (0 - r)), (x + r, y + (0 - r)), (x + r, y + (0 - v % r)), (x + (0 - u % r), y + (0 - v % r)), (x + (0 - u % r), y + r), (x + (0 - r), y + r)]
  else if s = 3 then [(x + (0 - r), y + (0 - r)), (x + 0, y + (-1 - u % (r - 1))), (x + r, y + (0 - r)), (x + 0, y + r)]
  else if s = 4 then [(x + (0 - r), y + (0 - (1 + u % (r - 1)))), (x + (0 - (1 + u % (r - 1))), y + (0 - r)), (x + (1 + u % (r - 1)), y + (0 - r)), (x + r, y + (0 - (1 + u % (r - 1)))), (x + r, y + (1 + u % (r - 1))), (x + (1 + u % (r - 1)), y + r), (x + (0 - (1 + u % (r - 1))), y + r), (x + (0 - r), y + (1 + u % (r - 1)))]
  else [(x + (0 - r), y + (0 - r)), (x + r, y + (0 - r)), (x + r, y + r), (x + (0 - r), y + r)]
theorem rng_few {x y r s u v : Int} (hx : -20 ≤ x ∧ x ≤ 20) (hy : -20 ≤ y ∧ y ≤ 20) (hr : 4 ≤ r ∧ r ≤ 19) : Few 40 (rng x y r s u v) := by
  have u2 := emod_bd u (n := 2 * r) (by omega)
  have v2 := emod_bd v (n := 2 * r) (by omega)
  have u1 := emod_bd u (n := r) (by omega)
  have v1 := emod_bd v (n := r) (by omega)
  have u3 := emod_bd u (n := r - 1) (by omega)
  refine few_of (by decide) ?_
  unfold rng
  generalize u % (2 * r) = a at *
  generalize v % (2 * r) = b at *
  generalize u % r = c at *
  generalize v % r = d at *
  generalize u % (r - 1) = e at *
  (repeat' split) <;> simp only [List.mem_cons, List.not_mem_nil, or_false, forall_eq_or_imp, forall_eq] <;> omega
theorem rng_len (x y r s u v : Int) : 3 ≤ (rng x y r s u v).length ∧ (rng x y r s u v).length ≤ 8 := by
  unfold rng
  (repeat' split) <;> simp
/-- the ring out of raw numbers -/
def rngL (xs : List Int) : List (Int × Int) := rng (xs.getD 0 0 % 40 - 20) (xs.getD 1 0 % 40 - 20) (4 + xs.getD 2 0 % 16) (xs.getD 3 0 % 5) (xs.getD 4 0) (xs.getD 5 0)
theorem rngL_few (xs : List Int) : Few 40 (rngL xs) := by
  have a := emod_bd (xs.getD 0 0) (n := 40) (by decide)
  have b := emod_bd (xs.getD 1 0) (n := 40) (by decide)
  have c := emod_bd (xs.getD 2 0) (n := 16) (by decide)
  exact rng_few (by omega) (by omega) (by omega)
theorem rngL_len (xs : List Int) : 3 ≤ (rngL xs).length ∧ (rngL xs).length ≤ 8 := rng_len _ _ _ _ _ _
end Go.Proofs.YtngmegnaohmapaaDoor.Am.Sp

