import Derived.Test.YtndkhgfecnbmnaaGreatProg
import Derived.Test.YtndkhgfecnbmnaaGreatM2
import Derived.Test.YtndkhgfecnbmnaaGreatM4
import Derived.Test.YtndkhgfecnbmnaaGreatM3
import Derived.Test.YtndkhgfecnbmnaaGreatM6
import Derived.Test.YtndkhgfecnbmnaaGreatM7
import Derived.Test.YtndkhgfecnbmnaaGreatM8
import Derived.Test.YtndkhgfecnbmnaaGreatM9
namespace Go.Proofs.YtndkhgfecnbmnaaGreat.Am
open Go Go.Proofs
set_option maxRecDepth 100000
set_option maxHeartbeats 4000000
set_option linter.unusedVariables false
set_option linter.unusedSimpArgs false
theorem h6point_ok (x : Int) (hx : Sp.In64 x) :
    AC Tryz.prog 6 0 ([.int .i64 x]) [] (.agg #[.int .i64 (x % 81 - 40), .int .i64 (Int.tdiv x 81 % 81 - 40)]) [] := by
  refine ac_in Tryz.func6 (fun w0 W pin => ?_)
  refine aw_p 3 (
    .a 1 1 <| .nil _ _) ?_
  refine aw_p 7 (
    .a 2 2 <| .p (does_i (Int.tdiv x 81) (wrap_i64 (Sp.tdiv_in hx (by decide)).1 (Sp.tdiv_in hx (by decide)).2) .i64) <| .a 1 2 <| .p (does_k [2] (mpoint_ok x (Int.tdiv x 81))) <| .a 1 3 <| .nil _ _) ?_
  refine aw_rt ?_
  exact en_ret [.agg #[.int .i64 (x % 81 - 40), .int .i64 ((Int.tdiv x 81) % 81 - 40)]] (show (.agg #[.int .i64 (x % 81 - 40), .int .i64 ((Int.tdiv x 81) % 81 - 40)] : Value) = (.agg #[.int .i64 (x % 81 - 40), .int .i64 (Int.tdiv x 81 % 81 - 40)]) from (congrArg (fun z : List Value => Value.agg z.toArray) (lcons rfl (lcons (congrArg (Value.int .i64) (show ((Int.tdiv x 81) % 81 - 40) = (Int.tdiv x 81 % 81 - 40) from by rfl)) rfl))))
end Go.Proofs.YtndkhgfecnbmnaaGreat.Am

set_option linter.unusedVariables false
set_option linter.unusedSimpArgs false
namespace Go.Proofs.YtndkhgfecnbmnaaGreat.Am.Sp
open Go
theorem sq_area {x y r : Int} (h1 : 1 ≤ r) (h2 : r ≤ 20) (hx : -40 ≤ x - r ∧ x + r ≤ 40) (hy : -40 ≤ y - r ∧ y + r ≤ 40) : twF (sqr x y r) 1 0 = 8 * (r * r) ∧ twF (hol x y r) 1 0 = -(8 * (r * r)) := by
  have f := few_sqr (x := x) (y := y) (r := r) (m := 40) (by omega) (by omega) (by omega)
  constructor
  · rw [(twF_area f.1 (by simp [sqr])).1]
    unfold areaN
    simp only [sqr, List.length_cons, List.length_nil, sumN, trE, trp, cA, cB, List.getD_cons_zero, List.getD_cons_succ, Nat.zero_add, Nat.reduceAdd, Nat.reduceMod]
    rw [lim_id (by omega) (by omega), lim_id (by omega) (by omega), lim_id (by omega) (by omega), lim_id (by omega) (by omega)]
    grind
  · rw [(twF_area f.2 (by simp [hol])).1]
    unfold areaN
    simp only [hol, List.length_cons, List.length_nil, sumN, trE, trp, cA, cB, List.getD_cons_zero, List.getD_cons_succ, Nat.zero_add, Nat.reduceAdd, Nat.reduceMod]
    rw [lim_id (by omega) (by omega), lim_id (by omega) (by omega), lim_id (by omega) (by omega), lim_id (by omega) (by omega)]
    grind
theorem sq_least {x y r : Int} (h1 : 1 ≤ r) : Least (sqr x y r) 0 ∧ Least (hol x y r) 0 := by
  have b : ∀ a c : Int × Int, befP a c = false ↔ ¬ (a.1 < c.1 ∨ (a.1 = c.1 ∧ a.2 < c.2)) := fun a c => by rw [← befP_iff]; simp
  constructor
  · intro j hj
    have hj' : j < 4 := hj
    rw [b]
    rcases (show j = 0 ∨ j = 1 ∨ j = 2 ∨ j = 3 by omega) with rfl | rfl | rfl | rfl <;> simp only [sqr, List.getD_cons_zero, List.getD_cons_succ] <;> omega
  · intro j hj
    have hj' : j < 4 := hj
    rw [b]
    rcases (show j = 0 ∨ j = 1 ∨ j = 2 ∨ j = 3 by omega) with rfl | rfl | rfl | rfl <;> simp only [hol, List.getD_cons_zero, List.getD_cons_succ] <;> omega
theorem sq_norm {x y r : Int} (h1 : 1 ≤ r) (h2 : r ≤ 20) (hx : -40 ≤ x - r ∧ x + r ≤ 40) (hy : -40 ≤ y - r ∧ y + r ≤ 40) : nrmL (sqr x y r) 0 = sqr x y r ∧ nrmL (hol x y r) 0 = sqr x y r := by
  have a := sq_area h1 h2 hx hy
  have p : 1 ≤ r * r := by have := Int.mul_le_mul h1 h1 (by omega) (by omega); omega
  constructor
  · rw [nrm_pl (by omega), rot_zero]
  · rw [nrm_rev (q := 3) (by omega) (by simp [hol])]
    simp [rotL, hol, sqr]
end Go.Proofs.YtndkhgfecnbmnaaGreat.Am.Sp
set_option linter.unusedVariables false
set_option linter.unusedSimpArgs false
namespace Go.Proofs.YtndkhgfecnbmnaaGreat.Am.Sp
open Go
def rct (a b c d : Int) : List (Int × Int) := [(a, b), (c, b), (c, d), (a, d)]
set_option maxRecDepth 100000 in
theorem ar_sq : ((List.range 18).all fun R => Nat.blt R 8 || (List.range (R - 2)).all fun j => decide (Fit (sqr 0 0 R) (sqr 0 0 (j + 1 : Nat)) (-1) 1)) = true := by decide +kernel
set_option maxRecDepth 100000 in
theorem ar_hol : ((List.range 18).all fun R => Nat.blt R 8 || (List.range (R - 2)).all fun j => decide (Fit (sqr 0 0 R) (hol 0 0 (j + 1 : Nat)) (-1) 1)) = true := by decide +kernel
set_option maxRecDepth 100000 in
theorem ar_by : ((List.range 16).all fun r => Nat.blt r 6 || (List.range 3).all fun d => decide (Fit (rct (-(r + 2 : Nat)) (-(r + 2 : Nat)) (r + 7 + d : Nat) (r + 2 : Nat)) (sqr 0 0 r) (-1) 1 ∧ Fit (rct (-(r + 2 : Nat)) (-(r + 2 : Nat)) (r + 7 + d : Nat) (r + 2 : Nat)) (sqr (r + 3 + d : Nat) 0 2) (-1) 1) && allap (rct (-(r + 2 : Nat)) (-(r + 2 : Nat)) (r + 7 + d : Nat) (r + 2 : Nat)) 4) = true := by decide +kernel
theorem bxr_ge {ps : List (Int × Int)} {lx ly hx hy : Int} (h : ∀ q ∈ ps, inB lx ly hx hy q) : ∀ k, 1 ≤ k → k ≤ ps.length → (lx ≤ (bxr ps k).1 ∧ ly ≤ (bxr ps k).2.1) ∧ ((bxr ps k).2.2.1 ≤ hx ∧ (bxr ps k).2.2.2 ≤ hy)
  | 0, h1, _ => by omega
  | k + 1, _, h2 => by
    have hq : inB lx ly hx hy (ps.getD k (0, 0)) := by rw [getD_lt (show k < ps.length by omega)]; exact h _ (List.getElem_mem _)
    unfold inB at hq
    by_cases c : k = 0
    · rw [bxr_0 c]; simp only
      unfold mn mx; (repeat' split) <;> omega
    · have ih := bxr_ge h k (by omega) (by omega)
      rw [bxr_n c]; simp only
      unfold mn mx; (repeat' split) <;> omega
theorem bxr_is {ps : List (Int × Int)} {lx ly hx hy : Int} (h : ∀ q ∈ ps, inB lx ly hx hy q) (h1 : ∃ q ∈ ps, q.1 = lx) (h2 : ∃ q ∈ ps, q.2 = ly) (h3 : ∃ q ∈ ps, q.1 = hx) (h4 : ∃ q ∈ ps, q.2 = hy) : bxr ps ps.length = (lx, ly, hx, hy) := by
  obtain ⟨a, ha, e1⟩ := h1; obtain ⟨b, hb, e2⟩ := h2; obtain ⟨c, hc, e3⟩ := h3; obtain ⟨d, hd, e4⟩ := h4
  have g := bxr_ge h ps.length (List.length_pos_of_mem ha) (Nat.le_refl _)
  have i := fun {q : Int × Int} (hq : q ∈ ps) => (by
    obtain ⟨j, hj, e⟩ := List.mem_iff_getElem.1 hq
    have := bxr_in ps ps.length j hj
    rw [getD_lt hj, e] at this; exact this : inB (bxr ps ps.length).1 (bxr ps ps.length).2.1 (bxr ps ps.length).2.2.1 (bxr ps ps.length).2.2.2 q)
  have ia := i ha; have ib := i hb; have ic := i hc; have id := i hd
  unfold inB at ia ib ic id
  refine Prod.ext (by simp only; omega) (Prod.ext (by simp only; omega) (Prod.ext (by simp only; omega) (by simp only; omega)))
/-- a point within the rectangle -/
theorem has_rct {a b c d x y m : Int} (hm : m ≤ 1048576) (hf : Few m (rct a b c d)) (h1 : a < x ∧ x < c) (h2 : b < y ∧ y < d) : hasF (rct a b c d) x y 0 (-1) = 1 := by
  have e := hasv_lim (ps := rct a b c d) (by simp [rct]) (map_limp hm hf) x y
  rw [e]
  have e0 : (rct a b c d).getD 0 (0, 0) = (a, b) := rfl
  have e1 : (rct a b c d).drop 1 ++ [(a, b)] = [(c, b), (c, d), (a, d), (a, b)] := rfl
  rw [e0, e1]
  have on : onany (x, y) (a, b) [(c, b), (c, d), (a, d), (a, b)] = false := by
    rcases Bool.eq_false_or_eq_true (onany (x, y) (a, b) [(c, b), (c, d), (a, d), (a, b)]) with q | q
    · exfalso
      simp only [onany, Bool.or_eq_true, ← lies_on, Bool.and_eq_true, btw_iff, Bool.false_eq_true, or_false] at q
      omega
    · exact q
  have r1 : cR (x, y) (a, b) (c, b) = false := cR_right (lx := a) (hx := c) (ly := b) (hy := b) ⟨by simp only; omega, by simp only; omega⟩ ⟨by simp only; omega, by simp only; omega⟩ (.inr (.inl h2.1))
  have r3 : cR (x, y) (c, d) (a, d) = false := cR_right (lx := a) (hx := c) (ly := d) (hy := d) ⟨by simp only; omega, by simp only; omega⟩ ⟨by simp only; omega, by simp only; omega⟩ (.inr (.inr h2.2))
  have r4 : cR (x, y) (a, d) (a, b) = false := cR_right (lx := a) (hx := a) (ly := b) (hy := d) ⟨by simp only; omega, by simp only; omega⟩ ⟨by simp only; omega, by simp only; omega⟩ (.inl h1.1)
  have r2 : cR (x, y) (c, b) (c, d) = true := by
    rw [cR_left (lx := c) (hx := c) (ly := b) (hy := d) ⟨by simp only; omega, by simp only; omega⟩ ⟨by simp only; omega, by simp only; omega⟩ h1.2]
    unfold blw
    simp only [decide_eq_true (show b < y by omega), decide_eq_false (show ¬ d < y by omega)]; rfl
  unfold hasv
  rw [on, if_neg (by decide)]
  simp only [xorp, r1, r2, r3, r4]; rfl
/-- what is in a ring is in the ring around it -/
theorem all_out {hs : List Int} (h : ∀ x ∈ hs, x = -1) : ahF hs (-1) = -1 := by
  rw [ahF_val, if_neg (by
    intro q
    obtain ⟨x, hx, e⟩ := List.any_eq_true.1 q
    rw [h x hx] at e; simp at e)]
  have : hs.filter (· == 1) = [] := List.filter_eq_nil_iff.2 fun x hx => by rw [h x hx]; decide
  unfold cnt1; rw [this]; rfl
theorem ahF_bd (hs : List Int) : -1 ≤ ahF hs (-1) ∧ ahF hs (-1) ≤ 1 := by rw [ahF_val]; (repeat' split) <;> omega
theorem ah_last {hs : List Int} {k : Int} (h : k = 1) : ahF (hs ++ [k]) (-1) = 0 - ahF hs (-1) := by
  subst h
  rw [ahF_val, ahF_val]
  have e1 : (hs ++ [1]).any (· == 0) = hs.any (· == 0) := by simp
  have e2 : cnt1 (hs ++ [1]) = cnt1 hs + 1 := by unfold cnt1; simp [List.filter_append]
  rw [e1, e2]
  (repeat' split) <;> omega
theorem ah_out {hs : List Int} {k : Int} (h : ∀ x ∈ hs, x = -1) (hk : k = 0 ∨ k = -1) : ahF (hs ++ [k]) (-1) = k := by
  rw [ahF_val]
  rcases hk with rfl | rfl
  · rw [if_pos (by simp)]
  · have := all_out (hs := hs ++ [-1]) (fun x hx => by rcases List.mem_append.1 hx with q | q; exact h x q; simpa using q)
    rwa [ahF_val] at this
end Go.Proofs.YtndkhgfecnbmnaaGreat.Am.Sp
set_option linter.unusedVariables false
set_option linter.unusedSimpArgs false
namespace Go.Proofs.YtndkhgfecnbmnaaGreat.Am.Sp
open Go
section
variable {x y r k j d : Int}
theorem rct_sq (x y r : Int) : rct (x - r - 2) (y - r - 2) (x + r + 2) (y + r + 2) = sqr x y (r + 2) := by
  simp only [rct, sqr, List.cons.injEq, Prod.mk.injEq, and_true]; omega
theorem few_rct {a b c d m : Int} (h1 : -m ≤ a ∧ a ≤ m) (h2 : -m ≤ b ∧ b ≤ m) (h3 : -m ≤ c ∧ c ≤ m) (h4 : -m ≤ d ∧ d ≤ m) : Few m (rct a b c d) :=
  few_of (by omega) (by simp only [rct, List.mem_cons, List.not_mem_nil, or_false, forall_eq_or_imp, forall_eq]; omega)
theorem rct_area {a b c d : Int} (h1 : -40 ≤ a ∧ a ≤ 40) (h2 : -40 ≤ b ∧ b ≤ 40) (h3 : -40 ≤ c ∧ c ≤ 40) (h4 : -40 ≤ d ∧ d ≤ 40) : twF (rct a b c d) 1 0 = 2 * ((c - a) * (d - b)) := by
  rw [(twF_area (few_rct h1 h2 h3 h4) (by simp [rct])).1]
  unfold areaN
  simp only [rct, List.length_cons, List.length_nil, sumN, trE, trp, cA, cB, List.getD_cons_zero, List.getD_cons_succ, Nat.zero_add, Nat.reduceAdd, Nat.reduceMod]
  rw [lim_id (by omega) (by omega), lim_id (by omega) (by omega), lim_id (by omega) (by omega), lim_id (by omega) (by omega)]
  grind
theorem ar_fs (h1 : 6 ≤ r) (h2 : r ≤ 15) (k1 : 1 ≤ j) (k2 : j ≤ r) (hx : -60 ≤ x ∧ x ≤ 60) (hy : -60 ≤ y ∧ y ≤ 60) : Fit (sqr x y (r + 2)) (sqr x y j) (-1) 1 := by
  obtain ⟨n, hn⟩ : ∃ n : Nat, r + 2 = (n : Int) := ⟨(r + 2).toNat, by omega⟩
  obtain ⟨m, rfl⟩ : ∃ m : Nat, j = ((m + 1 : Nat) : Int) := ⟨(j - 1).toNat, by omega⟩
  have h := all_at (f := fun R : Nat => Nat.blt R 8 || (List.range (R - 2)).all fun j : Nat => decide (Fit (sqr 0 0 R) (sqr 0 0 (j + 1 : Nat)) (-1) 1)) ar_sq (show n < 18 by omega)
  rw [blt6 (show 8 ≤ n by omega), Bool.false_or] at h
  have h := of_decide_eq_true (all_at (f := fun j : Nat => decide (Fit (sqr 0 0 n) (sqr 0 0 (j + 1 : Nat)) (-1) 1)) h (show m < n - 2 by omega))
  rw [hn, sqr_at, sqr_at x y ((m + 1 : Nat) : Int)]
  exact fit_move (few_sqr (m := 200) (by omega) (by omega) (by omega)).1 (few_sqr (m := 200) (by omega) (by omega) (by omega)).1 (by omega) (by omega) h
theorem ar_fh (h1 : 6 ≤ r) (h2 : r ≤ 15) (k1 : 1 ≤ j) (k2 : j ≤ r) (hx : -60 ≤ x ∧ x ≤ 60) (hy : -60 ≤ y ∧ y ≤ 60) : Fit (sqr x y (r + 2)) (hol x y j) (-1) 1 := by
  obtain ⟨n, hn⟩ : ∃ n : Nat, r + 2 = (n : Int) := ⟨(r + 2).toNat, by omega⟩
  obtain ⟨m, rfl⟩ : ∃ m : Nat, j = ((m + 1 : Nat) : Int) := ⟨(j - 1).toNat, by omega⟩
  have h := all_at (f := fun R : Nat => Nat.blt R 8 || (List.range (R - 2)).all fun j : Nat => decide (Fit (sqr 0 0 R) (hol 0 0 (j + 1 : Nat)) (-1) 1)) ar_hol (show n < 18 by omega)
  rw [blt6 (show 8 ≤ n by omega), Bool.false_or] at h
  have h := of_decide_eq_true (all_at (f := fun j : Nat => decide (Fit (sqr 0 0 n) (hol 0 0 (j + 1 : Nat)) (-1) 1)) h (show m < n - 2 by omega))
  rw [hn, sqr_at, hol_at x y ((m + 1 : Nat) : Int)]
  exact fit_move (few_sqr (m := 200) (by omega) (by omega) (by omega)).1 (few_sqr (m := 200) (by omega) (by omega) (by omega)).2 (by omega) (by omega) h
theorem rct_eq {a b c d a' b' c' d' : Int} (h1 : a = a') (h2 : b = b') (h3 : c = c') (h4 : d = d') : rct a b c d = rct a' b' c' d' := by rw [h1, h2, h3, h4]
theorem rct_at (x y a b c d : Int) : rct (x + a) (y + b) (x + c) (y + d) = (rct a b c d).map (move2 (x, y)) := by
  simp only [rct, List.map_cons, List.map_nil, move2, List.cons.injEq, Prod.mk.injEq, and_true]; omega
set_option maxRecDepth 100000 in
theorem ar_fb (h1 : 6 ≤ r) (h2 : r ≤ 15) (d1 : 0 ≤ d) (d2 : d ≤ 2) (hx : -60 ≤ x ∧ x ≤ 60) (hy : -60 ≤ y ∧ y ≤ 60) :
    (Fit (rct (x - r - 2) (y - r - 2) (x + r + 3 + d + 2 + 2) (y + r + 2)) (sqr x y r) (-1) 1 ∧ Fit (rct (x - r - 2) (y - r - 2) (x + r + 3 + d + 2 + 2) (y + r + 2)) (sqr (x + r + 3 + d) y 2) (-1) 1) ∧ chkF (rct (x - r - 2) (y - r - 2) (x + r + 3 + d + 2 + 2) (y + r + 2)) = 0 := by
  obtain ⟨n, rfl⟩ : ∃ n : Nat, r = (n : Int) := ⟨r.toNat, by omega⟩
  obtain ⟨m, rfl⟩ : ∃ m : Nat, d = (m : Int) := ⟨d.toNat, by omega⟩
  have h := all_at (f := fun r : Nat => Nat.blt r 6 || (List.range 3).all fun d : Nat => decide (Fit (rct (-(r + 2 : Nat)) (-(r + 2 : Nat)) (r + 7 + d : Nat) (r + 2 : Nat)) (sqr 0 0 r) (-1) 1 ∧ Fit (rct (-(r + 2 : Nat)) (-(r + 2 : Nat)) (r + 7 + d : Nat) (r + 2 : Nat)) (sqr (r + 3 + d : Nat) 0 2) (-1) 1) && allap (rct (-(r + 2 : Nat)) (-(r + 2 : Nat)) (r + 7 + d : Nat) (r + 2 : Nat)) 4) ar_by (show n < 16 by omega)
  rw [blt6 (show 6 ≤ n by omega), Bool.false_or] at h
  have h := all_at (f := fun d : Nat => decide (Fit (rct (-(n + 2 : Nat)) (-(n + 2 : Nat)) (n + 7 + d : Nat) (n + 2 : Nat)) (sqr 0 0 n) (-1) 1 ∧ Fit (rct (-(n + 2 : Nat)) (-(n + 2 : Nat)) (n + 7 + d : Nat) (n + 2 : Nat)) (sqr (n + 3 + d : Nat) 0 2) (-1) 1) && allap (rct (-(n + 2 : Nat)) (-(n + 2 : Nat)) (n + 7 + d : Nat) (n + 2 : Nat)) 4) h (show m < 3 by omega)
  rw [Bool.and_eq_true] at h
  obtain ⟨q1, q2⟩ := of_decide_eq_true h.1
  have e : rct (x - (n : Int) - 2) (y - (n : Int) - 2) (x + (n : Int) + 3 + (m : Int) + 2 + 2) (y + (n : Int) + 2) = (rct (-(n + 2 : Nat)) (-(n + 2 : Nat)) (n + 7 + m : Nat) (n + 2 : Nat)).map (move2 (x, y)) := by
    rw [← rct_at]; exact rct_eq (by omega) (by omega) (by omega) (by omega)
  have f0 : Few 200 (rct (-(n + 2 : Nat)) (-(n + 2 : Nat)) (n + 7 + m : Nat) (n + 2 : Nat)) := few_rct (by omega) (by omega) (by omega) (by omega)
  rw [e]
  refine ⟨⟨?_, ?_⟩, ?_⟩
  · rw [sqr_at x y n]
    exact fit_move f0 (few_sqr (m := 200) (by omega) (by omega) (by omega)).1 (by omega) (by omega) q1
  · rw [show x + (n : Int) + 3 + (m : Int) = x + ((n + 3 + m : Nat) : Int) by omega, sqr_move]
    exact fit_move f0 (few_sqr (m := 200) (by omega) (by omega) (by omega)).1 (by omega) (by omega) q2
  · rw [← e]
    refine chk_of (by simp [rct]) (by simp [rct]) (few_nok (m := 200) (by decide) (few_rct (by omega) (by omega) (by omega) (by omega))) ?_
    rw [e]; exact allap_move (m := 200) (by decide) f0 (by omega) (by omega) (by simp [rct]) h.2
end
theorem out_q {lx ly hx hy px py : Int} (l0 : -900 ≤ lx ∧ hx ≤ 900) (l1 : -900 ≤ ly ∧ hy ≤ 900) (l2 : lx ≤ hx ∧ ly ≤ hy) (bx : -40 ≤ px ∧ px ≤ 40) (by_ : -40 ≤ py ∧ py ≤ 40) (Rs : List (List (Int × Int))) (h : ∀ R ∈ Rs, ∀ q ∈ R, inB lx ly hx hy q) :
    hasF (rct (lx - 2) (ly - 2) (hx + 2) (hy + 2)) (lim 1048576 px) (lim 1048576 py) 0 (-1) = 1 ∨ ∀ z ∈ Rs.map (fun R => hasF R (lim 1048576 px) (lim 1048576 py) 0 (-1)), z = -1 := by
  by_cases c : ∀ z ∈ Rs.map (fun R => hasF R (lim 1048576 px) (lim 1048576 py) 0 (-1)), z = -1
  · exact .inr c
  · refine .inl ?_
    have : ∃ R ∈ Rs, hasF R (lim 1048576 px) (lim 1048576 py) 0 (-1) ≠ -1 := by
      refine Classical.byContradiction fun n => c fun z hz => ?_
      obtain ⟨R, hR, rfl⟩ := List.mem_map.1 hz
      exact Classical.byContradiction fun e => n ⟨R, hR, e⟩
    obtain ⟨R, hR, e⟩ := this
    have hc := has_cases R (lim 1048576 px) (lim 1048576 py)
    have hb := has_inB (lx := lx) (ly := ly) (hx := hx) (hy := hy) (fun q hq => by
      have := h R hR q hq
      unfold inB at this
      rw [limp_few (by omega)]; exact h R hR q hq) (show 0 ≤ hasF R (lim 1048576 px) (lim 1048576 py) 0 (-1) by omega)
    unfold inB at hb
    simp only at hb
    exact has_rct (m := 1000) (by decide) (few_rct (by omega) (by omega) (by omega) (by omega)) (by omega) (by omega)
/-- squares are small -/
theorem sq_small {r : Int} (h0 : 0 ≤ r) (h1 : r ≤ 40) : 0 ≤ r * r ∧ r * r ≤ 1600 := ⟨Int.mul_nonneg h0 h0, by have := Int.mul_le_mul h1 h1 h0 (by omega); omega⟩
theorem pcmp_one {a b c d : Int} (h : c < a) : pcmp a b c d = 1 := by rw [pcmp_form, if_neg (by omega), if_pos h]
end Go.Proofs.YtndkhgfecnbmnaaGreat.Am.Sp
set_option linter.unusedVariables false
set_option linter.unusedSimpArgs false
namespace Go.Proofs.YtndkhgfecnbmnaaGreat.Am.Sp
open Go
set_option maxRecDepth 100000 in
theorem sq_ring8 : ((List.range 18).all fun r => r == 0 || allap (sqr 0 0 r) 4) = true := by decide +kernel
section
variable {x y r k j d : Int}
theorem sq_good8 {x y r : Int} (h1 : 1 ≤ r) (h2 : r ≤ 17) (hx : -60 ≤ x ∧ x ≤ 60) (hy : -60 ≤ y ∧ y ≤ 60) : chkF (sqr x y r) = 0 := by
  obtain ⟨n, rfl⟩ : ∃ n : Nat, r = (n : Int) := ⟨r.toNat, by omega⟩
  have h := all_at (f := fun r : Nat => r == 0 || allap (sqr 0 0 r) 4) sq_ring8 (show n < 18 by omega)
  simp only [Bool.or_eq_true, beq_iff_eq] at h
  have h : allap (sqr 0 0 n) 4 = true := h.resolve_left (by omega)
  have f0 := few_sqr (x := 0) (y := 0) (r := (n : Int)) (m := 200) (by omega) (by omega) (by omega)
  have f1 := few_sqr (x := x) (y := y) (r := (n : Int)) (m := 200) (by omega) (by omega) (by omega)
  refine chk_of (by simp [sqr]) (by simp [sqr]) (few_nok (by decide) f1.1) ?_
  rw [sqr_at]; exact allap_move (m := 200) (by decide) f0.1 (by omega) (by omega) (by simp [sqr]) h
theorem in_sq {lx ly hx hy : Int} (h0 : 0 ≤ j) (h1 : lx ≤ x - j ∧ x + j ≤ hx) (h2 : ly ≤ y - j ∧ y + j ≤ hy) : (∀ q ∈ sqr x y j, inB lx ly hx hy q) ∧ ∀ q ∈ hol x y j, inB lx ly hx hy q := by
  constructor <;> intro q hq <;> simp only [sqr, hol, List.mem_cons, List.not_mem_nil, or_false] at hq <;> rcases hq with rfl | rfl | rfl | rfl <;> unfold inB <;> simp only <;> omega
theorem in_app {ps qs : List (Int × Int)} {P : Int × Int → Prop} (h1 : ∀ q ∈ ps, P q) (h2 : ∀ q ∈ qs, P q) : ∀ q ∈ ps ++ qs, P q := fun q hq => (List.mem_append.1 hq).elim (h1 q) (h2 q)
theorem ex_app {ps qs : List (Int × Int)} {P : Int × Int → Prop} (h : ∃ q ∈ ps, P q) : ∃ q ∈ ps ++ qs, P q := by obtain ⟨q, hq, h⟩ := h; exact ⟨q, List.mem_append.2 (.inl hq), h⟩
theorem ex_appr {ps qs : List (Int × Int)} {P : Int × Int → Prop} (h : ∃ q ∈ qs, P q) : ∃ q ∈ ps ++ qs, P q := by obtain ⟨q, hq, h⟩ := h; exact ⟨q, List.mem_append.2 (.inr hq), h⟩
theorem ex_sq (x y r : Int) : ((∃ q ∈ sqr x y r, q.1 = x - r) ∧ (∃ q ∈ sqr x y r, q.2 = y - r)) ∧ ((∃ q ∈ sqr x y r, q.1 = x + r) ∧ (∃ q ∈ sqr x y r, q.2 = y + r)) :=
  ⟨⟨⟨(x - r, y - r), by simp [sqr], rfl⟩, ⟨(x - r, y - r), by simp [sqr], rfl⟩⟩, ⟨(x + r, y + r), by simp [sqr], rfl⟩, ⟨(x + r, y + r), by simp [sqr], rfl⟩⟩
theorem box_n1 (h : 1 ≤ r) : bxr (sqr x y r) (sqr x y r).length = (x - r, y - r, x + r, y + r) :=
  have e := ex_sq x y r; bxr_is (in_sq (by omega) (by omega) (by omega)).1 e.1.1 e.1.2 e.2.1 e.2.2
theorem box_n2 (h : 1 ≤ r) (k0 : 0 ≤ k) (k1 : k ≤ r) : bxr (sqr x y r ++ hol x y k) (sqr x y r ++ hol x y k).length = (x - r, y - r, x + r, y + r) :=
  have e := ex_sq x y r; bxr_is (in_app (in_sq (by omega) (by omega) (by omega)).1 (in_sq (by omega) (by omega) (by omega)).2) (ex_app e.1.1) (ex_app e.1.2) (ex_app e.2.1) (ex_app e.2.2)
theorem box_n3 (h : 1 ≤ r) (k0 : 0 ≤ k) (k1 : k ≤ r) (j0 : 0 ≤ j) (j1 : j ≤ r) : bxr (sqr x y r ++ hol x y k ++ sqr x y j) (sqr x y r ++ hol x y k ++ sqr x y j).length = (x - r, y - r, x + r, y + r) :=
  have e := ex_sq x y r; bxr_is (in_app (in_app (in_sq (by omega) (by omega) (by omega)).1 (in_sq (by omega) (by omega) (by omega)).2) (in_sq (by omega) (by omega) (by omega)).1) (ex_app (ex_app e.1.1)) (ex_app (ex_app e.1.2)) (ex_app (ex_app e.2.1)) (ex_app (ex_app e.2.2))
theorem box_s2 (h : 6 ≤ r) (d0 : 0 ≤ d) : bxr (sqr x y r ++ sqr (x + r + 3 + d) y 2) (sqr x y r ++ sqr (x + r + 3 + d) y 2).length = (x - r, y - r, x + r + 3 + d + 2, y + r) :=
  have e := ex_sq x y r; have e' := ex_sq (x + r + 3 + d) y 2; bxr_is (in_app (in_sq (by omega) (by omega) (by omega)).1 (in_sq (by omega) (by omega) (by omega)).1) (ex_app e.1.1) (ex_app e.1.2) (ex_appr e'.2.1) (ex_app e.2.2)
/-- the ring around a square, and its facts -/
theorem ard (h1 : 6 ≤ r) (h2 : r ≤ 15) (hx : -60 ≤ x ∧ x ≤ 60) (hy : -60 ≤ y ∧ y ≤ 60) : chkF (rct (x - r - 2) (y - r - 2) (x + r + 2) (y + r + 2)) = 0 ∧ Fit (rct (x - r - 2) (y - r - 2) (x + r + 2) (y + r + 2)) (sqr x y r) (-1) 1 := by
  rw [rct_sq]; exact ⟨sq_good8 (by omega) (by omega) hx hy, ar_fs h1 h2 (by omega) (by omega) hx hy⟩
theorem ard_h (h1 : 6 ≤ r) (h2 : r ≤ 15) (k1 : 1 ≤ j) (k2 : j ≤ r) (hx : -60 ≤ x ∧ x ≤ 60) (hy : -60 ≤ y ∧ y ≤ 60) : Fit (rct (x - r - 2) (y - r - 2) (x + r + 2) (y + r + 2)) (hol x y j) (-1) 1 := by
  rw [rct_sq]; exact ar_fh h1 h2 k1 k2 hx hy
theorem ard_s (h1 : 6 ≤ r) (h2 : r ≤ 15) (k1 : 1 ≤ j) (k2 : j ≤ r) (hx : -60 ≤ x ∧ x ≤ 60) (hy : -60 ≤ y ∧ y ≤ 60) : Fit (rct (x - r - 2) (y - r - 2) (x + r + 2) (y + r + 2)) (sqr x y j) (-1) 1 := by
  rw [rct_sq]; exact ar_fs h1 h2 k1 k2 hx hy
theorem rct_bd {a b c d : Int} (h1 : -40 ≤ a ∧ a ≤ c ∧ c ≤ 40) (h2 : -40 ≤ b ∧ b ≤ d ∧ d ≤ 40) : (-100000 ≤ 2 * ((c - a) * (d - b)) ∧ 2 * ((c - a) * (d - b)) ≤ 100000) ∧ 0 ≤ 2 * ((c - a) * (d - b)) := by
  have := Int.mul_nonneg (a := c - a) (b := d - b) (by omega) (by omega)
  have := mul_bd (a := c - a) (b := d - b) (A := 80) (B := 80) (by omega) (by omega) (by omega) (by omega)
  omega
theorem sq_bd {r : Int} (h0 : 0 ≤ r) (h1 : r ≤ 40) : (-100000 ≤ 8 * (r * r) ∧ 8 * (r * r) ≤ 100000) ∧ (-100000 ≤ -(8 * (r * r)) ∧ -(8 * (r * r)) ≤ 100000) := by
  have := sq_small h0 h1; omega
theorem pc_1 {a b a' b' : Int} (h : a < a') : pcmp a' b' a b = 1 := pcmp_one h
end
end Go.Proofs.YtndkhgfecnbmnaaGreat.Am.Sp

namespace Go.Proofs.YtndkhgfecnbmnaaGreat.Am
open Go Go.Proofs
set_option maxRecDepth 100000
set_option maxHeartbeats 4000000
set_option linter.unusedVariables false
set_option linter.unusedSimpArgs false
theorem areasSame_0 (xs : List Int) (R1 R2 : List (Int × Int)) (zR1 : 1 ≤ R1.length ∧ R1.length ≤ 200) (fR1 : Sp.Few 1000 R1) (zR2 : 1 ≤ R2.length ∧ R2.length ≤ 200) (fR2 : Sp.Few 1000 R2) (cR1 : Sp.chkF R1 = 0) (cR2 : Sp.chkF R2 = 0) (F21 : Sp.Fit R2 R1 (-1) 1) (hm : AC Tryz.prog 5 1 [.slice (some ⟨0, 0, none⟩) xs.length 0] [(0, ⟨(xs.map i64v), 3, false, 1⟩)] (.slice (some ⟨1, 0, none⟩) 1 0) [(1, ⟨[sV 2 R1.length], 39, true, 1⟩), (2, (pB R1))]) (hn : AC Tryz.prog 7 2 [.slice (some ⟨0, 0, none⟩) 1 0] [(0, ⟨[sV 1 R1.length], 39, true, 1⟩), (1, (pB R1))] (.slice (some ⟨2, 0, none⟩) 1 0) [(0, ⟨[sV 1 R1.length], 39, true, 1⟩), (1, (pB R1)), (2, ⟨[sV 3 R1.length], 39, true, 1⟩), (3, (pB R1))]) (x px py : Int) (hx : AC Tryz.prog 6 0 [.int .i64 x] [] (.agg #[.int .i64 px, .int .i64 py]) []) (bpx : -40 ≤ px) (cpx : px ≤ 40) (bpy : -40 ≤ py) (cpy : py ≤ 40) (lx ly ux uy : Int) (l0 : -900 ≤ lx ∧ lx ≤ 900) (l1 : -900 ≤ ly ∧ ly ≤ 900) (l2 : -900 ≤ ux ∧ ux ≤ 900) (l3 : -900 ≤ uy ∧ uy ≤ 900) (hb : Sp.bxr R1 R1.length = (lx, ly, ux, uy)) (hA : Sp.rct (lx - 2) (ly - 2) (ux + 2) (uy + 2) = R2) (a1 a2 : Int) (t1 : Sp.twF R1 1 0 = a1) (b1 : -100000 ≤ a1 ∧ a1 ≤ 100000) (t2 : Sp.twF R2 1 0 = a2) (b2 : -100000 ≤ a2 ∧ a2 ≤ 100000) (ap : 0 ≤ a2) (hq : Sp.hasF R2 (Sp.lim 1048576 px) (Sp.lim 1048576 py) 0 (-1) = 1 ∨ ∀ z ∈ [Sp.hasF R1 (Sp.lim 1048576 px) (Sp.lim 1048576 py) 0 (-1)], z = -1) :
    AC Tryz.prog 3 1 ([sV 0 xs.length, .int .i64 x]) [(0, ⟨(xs.map i64v), 3, false, 1⟩)] (.bool true) [] := by
  have m1 : 0 ≤ Sp.mx a1 (0 - a1) ∧ Sp.mx a1 (0 - a1) ≤ 100000 := (by unfold Sp.mx; split <;> omega); have m2 : 0 ≤ Sp.mx a2 (0 - a2) ∧ Sp.mx a2 (0 - a2) ≤ 100000 := (by unfold Sp.mx; split <;> omega); have q0 := Sp.ahF_bd [Sp.hasF R1 (Sp.lim 1048576 px) (Sp.lim 1048576 py) 0 (-1)]; have q1 := Sp.ahF_bd [Sp.hasF R1 (Sp.lim 1048576 px) (Sp.lim 1048576 py) 0 (-1), Sp.hasF R2 (Sp.lim 1048576 px) (Sp.lim 1048576 py) 0 (-1)]
  refine ac_in Tryz.func3 (fun w0 W pin => ?_)
  refine aw_p 3 (
    .a 1 1 <| .nil _ _) ?_
  refine aw_sq 6 7 ?_
  refine aw_p 13 (
    .p (does_c (h6begun_ok)) <| .a 1 1 <| .nil _ _) ?_
  refine aw_fl 27 ?_
  refine aw_sk ?_
  refine then_normal ?_
  refine aw_p 15 (
    .a 1 1 <|
    .p (cF #[.tmp 16] #[22] [sV 0 xs.length] 2 [0, 1, 2] [(0, ⟨(xs.map i64v), 3, false, 1⟩)] [(1, ⟨[sV 2 R1.length], 39, true, 1⟩), (2, (pB R1))] (sV 1 1) (hm) (.cons rS .nil) ⟨rfl, ⟨rfl, rfl, rfl, (.flats (flats_map (fun _ => rfl) _))⟩, trivial⟩ ⟨rfl, ⟨rfl, rfl, rfl, (.cons rS .nil)⟩, rfl, bP, trivial⟩ rS) <|
    .a 1 3 <| .p (does_c (hx)) <| .a 3 3 <| .nil _ _) ?_
  refine aw_p 31 (
    .a 1 4 <|
    .p (cF #[.tmp 20] #[25] [sV 1 1] 2 [1, 2, 4, 5] [(1, ⟨[sV 2 R1.length], 39, true, 1⟩), (2, (pB R1))] [(1, ⟨[sV 2 R1.length], 39, true, 1⟩), (2, (pB R1)), (4, ⟨[sV 5 R1.length], 39, true, 1⟩), (5, (pB R1))] (sV 4 1) (hn) (.cons rS .nil) ⟨rfl, ⟨rfl, rfl, rfl, (.cons rS .nil)⟩, rfl, bP, trivial⟩ ⟨rfl, ⟨rfl, rfl, rfl, (.cons rS .nil)⟩, rfl, bP, rfl, ⟨rfl, rfl, rfl, (.cons rS .nil)⟩, rfl, bP, trivial⟩ rS) <|
    .a 1 6 <| .nil _ _) ?_
  refine aw_sq 62 63 ?_
  refine aw_d 125 (
    .a 1 6 <| .p (cS #[.tmp 22] #[25] [sV 1 1] [1, 2] [(1, ⟨[sV 2 R1.length], 39, true, 1⟩), (2, (pB R1))] (.int .i64 0) (acheck_n1 R1 zR1 fR1 cR1) (.cons rS .nil) ⟨rfl, ⟨rfl, rfl, rfl, (.cons rS .nil)⟩, rfl, bP, trivial⟩ rF) <| .a 11 6 <|
    .p (cS #[.tmp 33, .tmp 34] #[25, 28] [sV 4 1, .agg #[.int .i64 px, .int .i64 py]] [4, 5] [(4, ⟨[sV 5 R1.length], 39, true, 1⟩), (5, (pB R1))] (.int .i64 (Sp.ahF [Sp.hasF R1 (Sp.lim 1048576 px) (Sp.lim 1048576 py) 0 (-1)] (-1))) (ahas_1 R1 zR1 fR1 px py) (.cons rS (.cons rF .nil)) ⟨rfl, ⟨rfl, rfl, rfl, (.cons rS .nil)⟩, rfl, bP, trivial⟩ rF) <|
    .a 2 6 <|
    .p (cS #[.tmp 36, .tmp 37] #[25, 28] [sV 1 1, .agg #[.int .i64 px, .int .i64 py]] [1, 2] [(1, ⟨[sV 2 R1.length], 39, true, 1⟩), (2, (pB R1))] (.int .i64 (Sp.ahF [Sp.hasF R1 (Sp.lim 1048576 px) (Sp.lim 1048576 py) 0 (-1)] (-1))) (ahas_1 R1 zR1 fR1 px py) (.cons rS (.cons rF .nil)) ⟨rfl, ⟨rfl, rfl, rfl, (.cons rS .nil)⟩, rfl, bP, trivial⟩ rF) <|
    .p (does_b false ((show ((Sp.ahF [Sp.hasF R1 (Sp.lim 1048576 px) (Sp.lim 1048576 py) 0 (-1)] (-1)) != (Sp.ahF [Sp.hasF R1 (Sp.lim 1048576 px) (Sp.lim 1048576 py) 0 (-1)] (-1))) = false from by simp))) <| .a 3 6 <|
    .p (cS #[.tmp 42] #[25] [sV 4 1] [4, 5] [(4, ⟨[sV 5 R1.length], 39, true, 1⟩), (5, (pB R1))] (.int .i64 (0 + (Sp.mx a1 (0 - a1)))) (atwice_n1 R1 zR1 fR1 cR1 a1 t1 b1) (.cons rS .nil) ⟨rfl, ⟨rfl, rfl, rfl, (.cons rS .nil)⟩, rfl, bP, trivial⟩ rF) <| .a 1 6 <|
    .p (cS #[.tmp 44] #[25] [sV 1 1] [1, 2] [(1, ⟨[sV 2 R1.length], 39, true, 1⟩), (2, (pB R1))] (.int .i64 (0 + (Sp.mx a1 (0 - a1)))) (atwice_n1 R1 zR1 fR1 cR1 a1 t1 b1) (.cons rS .nil) ⟨rfl, ⟨rfl, rfl, rfl, (.cons rS .nil)⟩, rfl, bP, trivial⟩ rF) <|
    .p (does_b false ((show ((0 + (Sp.mx a1 (0 - a1))) != (0 + (Sp.mx a1 (0 - a1)))) = false from by simp))) <| .a 1 6 <| .nil _ _) ?_
  refine aw_fl 251 ?_
  refine aw_sk ?_
  refine then_normal ?_
  refine aw_p 127 (
    .a 1 6 <|
    .p (cS (m := 2) (args0 := [sV 0 1]) (pre0 := [(0, ⟨[sV 1 R1.length], 39, true, 1⟩), (1, (pB R1))]) (v0 := .agg #[.int .i64 lx, .int .i64 ly, .int .i64 ux, .int .i64 uy]) #[.tmp 48] #[25] [sV 1 1] [1, 2] [(1, ⟨[sV 2 R1.length], 39, true, 1⟩), (2, (pB R1))] (.agg #[.int .i64 lx, .int .i64 ly, .int .i64 ux, .int .i64 uy]) ((by have h := abox_1 R1 zR1 fR1; rw [hb] at h; exact h)) (.cons rS .nil) ⟨rfl, ⟨rfl, rfl, rfl, (.cons rS .nil)⟩, rfl, bP, trivial⟩ rF) <|
    .a 2 6 <| .nil _ _) ?_
  refine aw_p 255 (
    .a 1 7 <| .p (does_c (grow_in lx ly ux uy 2 (by omega) (by omega) (by omega) (by omega) (by omega) (by omega) (by omega) (by omega) (by omega) (by omega))) <| .a 2 7 <| .nil _ _) ?_
  refine aw_p 511 (
    .a 20 8 <| .nil _ _) ?_
  refine aw_w [(0, sV 0 xs.length), (1, .int .i64 x), (4, .bool false), (5, sV 1 1), (6, .pointer (some ⟨3, 0, none⟩)), (7, sV 4 1), (8, .pointer (some ⟨6, 0, none⟩)), (9, .pointer (some ⟨7, 0, none⟩)), (10, sV 8 R2.length), (14, .bool true), (15, .bool false), (16, sV 0 xs.length), (17, sV 1 1), (18, .int .i64 x), (19, .agg #[.int .i64 px, .int .i64 py]), (20, sV 1 1), (21, sV 4 1), (22, sV 1 1), (23, .int .i64 0), (24, .bool false), (25, .bool false), (26, sV 4 1), (27, .int .i64 1), (28, sV 1 1), (29, .int .i64 1), (30, .bool false), (31, .bool false), (32, .bool false), (33, sV 4 1), (34, .agg #[.int .i64 px, .int .i64 py]), (35, .int .i64 (Sp.ahF [Sp.hasF R1 (Sp.lim 1048576 px) (Sp.lim 1048576 py) 0 (-1)] (-1))), (36, sV 1 1), (37, .agg #[.int .i64 px, .int .i64 py]), (38, .int .i64 (Sp.ahF [Sp.hasF R1 (Sp.lim 1048576 px) (Sp.lim 1048576 py) 0 (-1)] (-1))), (39, .bool false), (40, .bool false), (41, .bool false), (42, sV 4 1), (43, .int .i64 (0 + (Sp.mx a1 (0 - a1)))), (44, sV 1 1), (45, .int .i64 (0 + (Sp.mx a1 (0 - a1)))), (46, .bool false), (47, .bool false), (48, sV 1 1), (49, .agg #[.int .i64 lx, .int .i64 ly, .int .i64 ux, .int .i64 uy]), (50, .agg #[.int .i64 lx, .int .i64 ly, .int .i64 ux, .int .i64 uy]), (51, .agg #[.int .i64 (lx - 2), .int .i64 (ly - 2), .int .i64 (ux + 2), .int .i64 (uy + 2)]), (52, .pointer (some ⟨7, 0, none⟩)), (53, .agg #[.int .i64 (lx - 2), .int .i64 (ly - 2)]), (54, .pointer (some ⟨7, 2, none⟩)), (55, .pointer (some ⟨7, 2, none⟩)), (56, .int .i64 (ux + 2)), (57, .pointer (some ⟨7, 0, none⟩)), (58, .pointer (some ⟨7, 1, none⟩)), (59, .int .i64 (ly - 2)), (60, .agg #[.int .i64 (ux + 2), .int .i64 (ly - 2)]), (61, .pointer (some ⟨7, 2, none⟩)), (62, .agg #[.int .i64 (ux + 2), .int .i64 (uy + 2)]), (63, .pointer (some ⟨7, 0, none⟩)), (64, .pointer (some ⟨7, 0, none⟩)), (65, .int .i64 (lx - 2)), (66, .pointer (some ⟨7, 2, none⟩)), (67, .pointer (some ⟨7, 3, none⟩)), (68, .int .i64 (uy + 2)), (69, .agg #[.int .i64 (lx - 2), .int .i64 (uy + 2)]), (70, sV 8 R2.length)] [(0, ⟨(xs.map i64v), 3, false, 1⟩), (1, ⟨[sV 2 R1.length], 39, true, 1⟩), (2, (pB R1)), (3, ⟨[.int .i64 px, .int .i64 py], 28, true, 2⟩), (4, ⟨[sV 5 R1.length], 39, true, 1⟩), (5, (pB R1)), (6, ⟨[.int .i64 lx, .int .i64 ly, .int .i64 ux, .int .i64 uy], 36, true, 4⟩), (7, ⟨[.int .i64 (lx - 2), .int .i64 (ly - 2), .int .i64 (ux + 2), .int .i64 (uy + 2)], 36, true, 4⟩), (8, (pB R2))] ?_ (by rw [← hA]; kernel_rfl) (by rw [← hA]; kernel_rfl) (hc := (by simp [closedB, valsB, valB, List.all_eq_true, List.mem_flatMap, List.mem_range, List.mem_map, i64v, ptc, flat1]; try (intros; simp [valsB, valB, flat1]); try decide))
  refine aw_p 1023 (
    .a 1 9 <|
    .p (cF #[.tmp 71] #[25] [sV 1 1] 1 [1, 2, 9] [(1, ⟨[sV 2 R1.length], 39, true, 1⟩), (2, (pB R1))] [(1, ⟨[sV 2 R1.length], 39, true, 1⟩), (2, (pB R1)), (9, ⟨[sV 2 R1.length], 39, true, 1⟩)] (sV 9 1) (aclone_1 R1 zR1 fR1) (.cons rS .nil) ⟨rfl, ⟨rfl, rfl, rfl, (.cons rS .nil)⟩, rfl, bP, trivial⟩ ⟨rfl, ⟨rfl, rfl, rfl, (.cons rS .nil)⟩, rfl, bP, rfl, ⟨rfl, rfl, rfl, (.cons rS .nil)⟩, trivial⟩ rS) <|
    .a 2 10 <| .p (does_ap 11) <| .a 1 12 <| .nil _ _) ?_
  refine aw_sq 2046 2047 ?_
  refine aw_p 4093 (
    .a 1 12 <| .p (cS #[.tmp 76] #[25] [sV 11 2] [11, 2, 8] [(11, ⟨[sV 2 R1.length, sV 8 R2.length], 39, true, 1⟩), (2, (pB R1)), (8, (pB R2))] (.int .i64 0) (acheck_o1 R1 R2 zR1 fR1 zR2 fR2 cR1 cR2 F21) (.cons rS .nil) ⟨rfl, ⟨rfl, rfl, rfl, (.cons rS (.cons rS .nil))⟩, rfl, bP, rfl, bP, trivial⟩ rF) <|
    .a 3 12 <|
    .p (cS #[.tmp 80] #[25] [sV 11 2] [11, 2, 8] [(11, ⟨[sV 2 R1.length, sV 8 R2.length], 39, true, 1⟩), (2, (pB R1)), (8, (pB R2))] (.int .i64 ((0 + (0 - (Sp.mx a1 (0 - a1)))) + (Sp.mx a2 (0 - a2)))) (atwice_o1 R1 R2 zR1 fR1 zR2 fR2 cR1 cR2 F21 a1 a2 t1 b1 t2 b2) (.cons rS .nil) ⟨rfl, ⟨rfl, rfl, rfl, (.cons rS (.cons rS .nil))⟩, rfl, bP, rfl, bP, trivial⟩ rF) <|
    .a 1 12 <| .p (cS (m := 1) (args0 := [sV 0 R2.length]) (pre0 := [(0, (pB R2))]) (v0 := .int .i64 a2) #[.tmp 82] #[39] [sV 8 R2.length] [8] [(8, (pB R2))] (.int .i64 a2) ((by have h := twicen_own R2 R2.length rfl (by omega); rw [t2] at h; exact h)) (.cons rS .nil) ⟨rfl, bP, trivial⟩ rF) <| .a 1 12 <|
    .p (cS #[.tmp 84] #[25] [sV 1 1] [1, 2] [(1, ⟨[sV 2 R1.length], 39, true, 1⟩), (2, (pB R1))] (.int .i64 (0 + (Sp.mx a1 (0 - a1)))) (atwice_n1 R1 zR1 fR1 cR1 a1 t1 b1) (.cons rS .nil) ⟨rfl, ⟨rfl, rfl, rfl, (.cons rS .nil)⟩, rfl, bP, trivial⟩ rF) <|
    .p (does_i (a2 - (0 + (Sp.mx a1 (0 - a1)))) (wrap_i64 (by omega) (by omega)) .i64) <|
    .p (does_b false ((show (((0 + (0 - (Sp.mx a1 (0 - a1)))) + (Sp.mx a2 (0 - a2))) != (a2 - (0 + (Sp.mx a1 (0 - a1))))) = false from (by rw [bne_eq_false_iff_eq, show Sp.mx a2 (0 - a2) = a2 by unfold Sp.mx; split <;> omega]; omega)))) <| .a 1 12 <| .nil _ _) ?_
  refine aw_fl 8187 ?_
  refine aw_sk ?_
  refine then_normal ?_
  refine aw_d 4095 (
    .a 2 12 <|
    .p (cS #[.tmp 89, .tmp 90] #[25, 28] [sV 1 1, .agg #[.int .i64 px, .int .i64 py]] [1, 2] [(1, ⟨[sV 2 R1.length], 39, true, 1⟩), (2, (pB R1))] (.int .i64 (Sp.ahF [Sp.hasF R1 (Sp.lim 1048576 px) (Sp.lim 1048576 py) 0 (-1)] (-1))) (ahas_1 R1 zR1 fR1 px py) (.cons rS (.cons rF .nil)) ⟨rfl, ⟨rfl, rfl, rfl, (.cons rS .nil)⟩, rfl, bP, trivial⟩ rF) <|
    .a 2 12 <|
    .p (cS #[.tmp 92, .tmp 93] #[25, 28] [sV 11 2, .agg #[.int .i64 px, .int .i64 py]] [11, 2, 8] [(11, ⟨[sV 2 R1.length, sV 8 R2.length], 39, true, 1⟩), (2, (pB R1)), (8, (pB R2))] (.int .i64 (Sp.ahF [Sp.hasF R1 (Sp.lim 1048576 px) (Sp.lim 1048576 py) 0 (-1), Sp.hasF R2 (Sp.lim 1048576 px) (Sp.lim 1048576 py) 0 (-1)] (-1))) (ahas_2 R1 R2 zR1 fR1 zR2 fR2 px py) (.cons rS (.cons rF .nil)) ⟨rfl, ⟨rfl, rfl, rfl, (.cons rS (.cons rS .nil))⟩, rfl, bP, rfl, bP, trivial⟩ rF) <|
    .a 2 12 <| .nil _ _) ?_
  refine aw_sq 8190 8191 ?_
  refine aw_p 16381 (
    .a 2 12 <| .p (cS #[.tmp 95, .tmp 96] #[39, 28] [sV 8 R2.length, .agg #[.int .i64 px, .int .i64 py]] [8] [(8, (pB R2))] (.int .i64 (Sp.hasF R2 (Sp.lim 1048576 px) (Sp.lim 1048576 py) 0 (-1))) (hasn_own R2 R2.length rfl (by omega) px py) (.cons rS (.cons rF .nil)) ⟨rfl, bP, trivial⟩ rF) <| .a 1 12 <| .nil _ _) ?_
  refine aw_cd 32762 32763 ((Sp.hasF R2 (Sp.lim 1048576 px) (Sp.lim 1048576 py) 0 (-1)) != 1) (fun h1 => ?_) (fun h1 => ?_)
  · have h1p : (¬ ((Sp.hasF R2 (Sp.lim 1048576 px) (Sp.lim 1048576 py) 0 (-1)) = 1)) := by first | (simpa using h1) | (have h1q := h1; simp at h1q; omega) | (have h1q := bx1 h1; simp at h1q; omega)
    refine aw_p 65525 (
      .a 1 12 <| .p (does_b true ((show ((Sp.ahF [Sp.hasF R1 (Sp.lim 1048576 px) (Sp.lim 1048576 py) 0 (-1)] (-1)) == (-1)) = true from (by have hz := hq.resolve_left (by simpa using h1); rw [beq_iff_eq]; exact Sp.all_out hz)))) <| .a 4 12 <|
      .p (cS #[.tmp 103, .tmp 104] #[39, 28] [sV 8 R2.length, .agg #[.int .i64 px, .int .i64 py]] [8] [(8, (pB R2))] (.int .i64 (Sp.hasF R2 (Sp.lim 1048576 px) (Sp.lim 1048576 py) 0 (-1))) (hasn_own R2 R2.length rfl (by omega) px py) (.cons rS (.cons rF .nil)) ⟨rfl, bP, trivial⟩ rF) <|
      .p (does_b true ((show ((Sp.ahF [Sp.hasF R1 (Sp.lim 1048576 px) (Sp.lim 1048576 py) 0 (-1), Sp.hasF R2 (Sp.lim 1048576 px) (Sp.lim 1048576 py) 0 (-1)] (-1)) == (Sp.hasF R2 (Sp.lim 1048576 px) (Sp.lim 1048576 py) 0 (-1))) = true from (by have hz := hq.resolve_left (by simpa using h1); rw [beq_iff_eq]; exact Sp.ah_out (hs := [Sp.hasF R1 (Sp.lim 1048576 px) (Sp.lim 1048576 py) 0 (-1)]) hz (by rcases Sp.has_cases R2 (Sp.lim 1048576 px) (Sp.lim 1048576 py) with q | q | q <;> first | exact .inl q | exact .inr q | exact absurd q (by simpa using h1)))))) <|
      .a 2 12 <| .nil _ _) ?_
    refine aw_rt ?_
    refine then_ret ?_
    exact en_ret [.bool true] (by kernel_rfl)
  · have h1p : ¬ (¬ ((Sp.hasF R2 (Sp.lim 1048576 px) (Sp.lim 1048576 py) 0 (-1)) = 1)) := by first | (simpa using h1) | (have h1q := h1; simp at h1q; omega) | (have h1q := bx2 h1; simp at h1q; omega)
    refine aw_sk ?_
    refine then_normal ?_
    refine aw_p 16383 (
      .a 2 12 <| .p (does_i (0 - (Sp.ahF [Sp.hasF R1 (Sp.lim 1048576 px) (Sp.lim 1048576 py) 0 (-1)] (-1))) (wrap_i64 (by omega) (by omega)) .i64) <|
      .p (does_b true ((show ((Sp.ahF [Sp.hasF R1 (Sp.lim 1048576 px) (Sp.lim 1048576 py) 0 (-1), Sp.hasF R2 (Sp.lim 1048576 px) (Sp.lim 1048576 py) 0 (-1)] (-1)) == (0 - (Sp.ahF [Sp.hasF R1 (Sp.lim 1048576 px) (Sp.lim 1048576 py) 0 (-1)] (-1)))) = true from (by rw [beq_iff_eq]; exact Sp.ah_last (hs := [Sp.hasF R1 (Sp.lim 1048576 px) (Sp.lim 1048576 py) 0 (-1)]) (by simpa using h1))))) <|
      .a 1 12 <| .nil _ _) ?_
    refine aw_rt ?_
    exact en_ret [.bool true] (by kernel_rfl)
end Go.Proofs.YtndkhgfecnbmnaaGreat.Am

namespace Go.Proofs.YtndkhgfecnbmnaaGreat.Am
open Go Go.Proofs
set_option maxRecDepth 100000
set_option maxHeartbeats 4000000
set_option linter.unusedVariables false
set_option linter.unusedSimpArgs false
theorem acheck_n2 (R1 R2 : List (Int × Int)) (zR1 : 1 ≤ R1.length ∧ R1.length ≤ 200) (fR1 : Sp.Few 1000 R1) (zR2 : 1 ≤ R2.length ∧ R2.length ≤ 200) (fR2 : Sp.Few 1000 R2) (cR1 : Sp.chkF R1 = 0) (cR2 : Sp.chkF R2 = 0) (F21 : Sp.Fit R2 R1 1 (-1)) :
    AC Tryz.prog 8 3 ([sV 0 2]) [(0, ⟨[sV 1 R1.length, sV 2 R2.length], 39, true, 1⟩), (1, (pB R1)), (2, (pB R2))] (.int .i64 0) [(0, ⟨[sV 1 R1.length, sV 2 R2.length], 39, true, 1⟩), (1, (pB R1)), (2, (pB R2))] := by
  refine ac_in Tryz.func8 (fun w0 W pin => ?_)
  refine aw_p 3 (
    .a 1 3 <| .nil _ _) ?_
  refine aw_sq 6 7 ?_
  refine aw_p 13 (
    .a 3 3 <| .nil _ _) ?_
  refine aw_fl 27 ?_
  refine aw_sk ?_
  refine then_normal ?_
  refine aw_sq 14 15 ?_
  refine aw_p 29 (
    .a 3 3 <| .nil _ _) ?_
  refine aw_bl 0 59 ?_
  refine aw_lp 119 ?_
  refine al_round ?_
  refine aw_p 239 (
    .a 1 3 <| .nil _ _) ?_
  refine aw_sq 478 479 ?_
  refine aw_tr 956 ?_
  refine aw_sk ?_
  refine then_normal ?_
  refine aw_sq 958 959 ?_
  refine aw_bl 1 1917 ?_
  refine aw_p 3835 (
    .a 3 3 <| .nil _ _) ?_
  refine aw_p 7671 (
    .a 1 3 <| .p (cS (m := 1) (args0 := [sV 0 R1.length]) (pre0 := [(0, (pB R1))]) (v0 := .int .i64 0) #[.tmp 19] #[39] [sV 1 R1.length] [1] [(1, (pB R1))] (.int .i64 0) ((by have h := chkn_own R1 R1.length rfl (by omega); rw [cR1] at h; exact h)) (.cons rS .nil) ⟨rfl, bP, trivial⟩ rF) <| .a 1 3 <| .nil _ _) ?_
  refine aw_p 15343 (
    .a 2 3 <| .nil _ _) ?_
  refine aw_fl 30687 ?_
  refine aw_sk ?_
  refine block_normal ?_
  refine then_normal ?_
  refine aw_p1 (
    .a 2 3 <| .nil _ _) ?_
  refine then_normal ?_
  refine al_round ?_
  refine aw_p 239 (
    .a 1 3 <| .nil _ _) ?_
  refine aw_sq 478 479 ?_
  refine aw_tr 956 ?_
  refine aw_sk ?_
  refine then_normal ?_
  refine aw_sq 958 959 ?_
  refine aw_bl 1 1917 ?_
  refine aw_p 3835 (
    .a 3 3 <| .nil _ _) ?_
  refine aw_p 7671 (
    .a 1 3 <| .p (cS (m := 1) (args0 := [sV 0 R2.length]) (pre0 := [(0, (pB R2))]) (v0 := .int .i64 0) #[.tmp 19] #[39] [sV 2 R2.length] [2] [(2, (pB R2))] (.int .i64 0) ((by have h := chkn_own R2 R2.length rfl (by omega); rw [cR2] at h; exact h)) (.cons rS .nil) ⟨rfl, bP, trivial⟩ rF) <| .a 1 3 <| .nil _ _) ?_
  refine aw_p 15343 (
    .a 2 3 <| .nil _ _) ?_
  refine aw_fl 30687 ?_
  refine aw_sk ?_
  refine block_normal ?_
  refine then_normal ?_
  refine aw_p1 (
    .a 2 3 <| .nil _ _) ?_
  refine then_normal ?_
  refine al_round ?_
  refine aw_p 239 (
    .a 1 3 <| .nil _ _) ?_
  refine aw_sq 478 479 ?_
  refine aw_fl 957 ?_
  refine aw_ex 0 ?_
  refine then_exit ?_
  refine then_exit ?_
  refine block_exit ?_
  refine then_normal ?_
  refine aw_sq 30 31 ?_
  refine aw_p 61 (
    .a 3 3 <| .nil _ _) ?_
  refine aw_bl 2 123 ?_
  refine aw_lp 247 ?_
  refine al_round ?_
  refine aw_p 495 (
    .a 1 3 <| .nil _ _) ?_
  refine aw_sq 990 991 ?_
  refine aw_tr 1980 ?_
  refine aw_sk ?_
  refine then_normal ?_
  refine aw_sq 1982 1983 ?_
  refine aw_bl 3 3965 ?_
  refine aw_p 7931 (
    .a 5 3 <| .nil _ _) ?_
  refine aw_p 15863 (
    .a 2 3 <|
    .p (does_val (v' := sV 0 0) (does_slice (t := 25) (x := .tmp 32) (lo := none) (hi := some (.tmp 33)) (k := 0) (off := 0) (n := 2) (c := 0) (z := 1) (l := 0) (h := 0) (m := 0) (b := ⟨[sV 1 R1.length, sV 2 R2.length], 39, true, 1⟩) (by kernel_rfl) (by kernel_rfl) (by kernel_rfl) (by kernel_rfl) (by kernel_rfl) (by kernel_rfl) (by kernel_rfl) (by kernel_rfl) (by decide) (by decide) (by decide) (by decide)) (by kernel_rfl)) <|
    .a 2 3 <| .nil _ _) ?_
  refine aw_bl 4 31727 ?_
  refine aw_lp 63455 ?_
  refine al_round ?_
  refine aw_p 126911 (
    .a 1 3 <| .nil _ _) ?_
  refine aw_sq 253822 253823 ?_
  refine aw_fl 507645 ?_
  refine aw_ex 4 ?_
  refine then_exit ?_
  refine then_exit ?_
  refine block_exit ?_
  refine block_normal ?_
  refine then_normal ?_
  refine aw_p1 (
    .a 2 3 <| .nil _ _) ?_
  refine then_normal ?_
  refine al_round ?_
  refine aw_p 495 (
    .a 1 3 <| .nil _ _) ?_
  refine aw_sq 990 991 ?_
  refine aw_tr 1980 ?_
  refine aw_sk ?_
  refine then_normal ?_
  refine aw_sq 1982 1983 ?_
  refine aw_bl 3 3965 ?_
  refine aw_p 7931 (
    .a 5 3 <| .nil _ _) ?_
  refine aw_p 15863 (
    .a 2 3 <|
    .p (does_val (v' := sV 0 1) (does_slice (t := 25) (x := .tmp 32) (lo := none) (hi := some (.tmp 33)) (k := 0) (off := 0) (n := 2) (c := 0) (z := 1) (l := 0) (h := 1) (m := 1) (b := ⟨[sV 1 R1.length, sV 2 R2.length], 39, true, 1⟩) (by kernel_rfl) (by kernel_rfl) (by kernel_rfl) (by kernel_rfl) (by kernel_rfl) (by kernel_rfl) (by kernel_rfl) (by kernel_rfl) (by decide) (by decide) (by decide) (by decide)) (by kernel_rfl)) <|
    .a 2 3 <| .nil _ _) ?_
  refine aw_bl 4 31727 ?_
  refine aw_lp 63455 ?_
  refine al_round ?_
  refine aw_p 126911 (
    .a 1 3 <| .nil _ _) ?_
  refine aw_sq 253822 253823 ?_
  refine aw_tr 507644 ?_
  refine aw_sk ?_
  refine then_normal ?_
  refine aw_sq 507646 507647 ?_
  refine aw_bl 5 1015293 ?_
  refine aw_p 2030587 (
    .a 3 3 <| .nil _ _) ?_
  refine aw_p 4061175 (
    .a 2 3 <| .p (cS #[.tmp 40, .tmp 41] #[39, 39] [sV 2 R2.length, sV 1 R1.length] [2, 1] [(2, (pB R2)), (1, (pB R1))] (.bool true) (fits_ok R2 R1 1 (-1) zR2 fR2 zR1 fR1 F21) (.cons rS (.cons rS .nil)) ⟨rfl, bP, rfl, bP, trivial⟩ rF) <| .a 1 3 <| .nil _ _) ?_
  refine aw_fl 8122351 ?_
  refine aw_sk ?_
  refine block_normal ?_
  refine then_normal ?_
  refine aw_p1 (
    .a 2 3 <| .nil _ _) ?_
  refine then_normal ?_
  refine al_round ?_
  refine aw_p 126911 (
    .a 1 3 <| .nil _ _) ?_
  refine aw_sq 253822 253823 ?_
  refine aw_fl 507645 ?_
  refine aw_ex 4 ?_
  refine then_exit ?_
  refine then_exit ?_
  refine block_exit ?_
  refine block_normal ?_
  refine then_normal ?_
  refine aw_p1 (
    .a 2 3 <| .nil _ _) ?_
  refine then_normal ?_
  refine al_round ?_
  refine aw_p 495 (
    .a 1 3 <| .nil _ _) ?_
  refine aw_sq 990 991 ?_
  refine aw_fl 1981 ?_
  refine aw_ex 2 ?_
  refine then_exit ?_
  refine then_exit ?_
  refine block_exit ?_
  refine then_normal ?_
  refine aw_p 63 (
    .a 1 3 <| .nil _ _) ?_
  refine aw_rt ?_
  exact en_ret [.int .i64 0] (by kernel_rfl)
theorem adepth_n2 (R1 R2 : List (Int × Int)) (zR1 : 1 ≤ R1.length ∧ R1.length ≤ 200) (fR1 : Sp.Few 1000 R1) (zR2 : 1 ≤ R2.length ∧ R2.length ≤ 200) (fR2 : Sp.Few 1000 R2) (cR1 : Sp.chkF R1 = 0) (cR2 : Sp.chkF R2 = 0) (F21 : Sp.Fit R2 R1 1 (-1)) :
    AC Tryz.prog 27 3 ([sV 0 2]) [(0, ⟨[sV 1 R1.length, sV 2 R2.length], 39, true, 1⟩), (1, (pB R1)), (2, (pB R2))] (sV 3 2) [(0, ⟨[sV 1 R1.length, sV 2 R2.length], 39, true, 1⟩), (1, (pB R1)), (2, (pB R2)), (3, ⟨[.int .i64 0, .int .i64 1], 3, true, 1⟩)] := by
  refine ac_in Tryz.func27 (fun w0 W pin => ?_)
  refine aw_p 3 (
    .a 1 3 <| .nil _ _) ?_
  refine aw_sq 6 7 ?_
  refine aw_p 13 (
    .a 1 3 <| .p (cS #[.tmp 8] #[25] [sV 0 2] [0, 1, 2] [(0, ⟨[sV 1 R1.length, sV 2 R2.length], 39, true, 1⟩), (1, (pB R1)), (2, (pB R2))] (.int .i64 0) (acheck_n2 R1 R2 zR1 fR1 zR2 fR2 cR1 cR2 F21) (.cons rS .nil) ⟨rfl, ⟨rfl, rfl, rfl, (.cons rS (.cons rS .nil))⟩, rfl, bP, rfl, bP, trivial⟩ rF) <|
    .a 1 3 <| .nil _ _) ?_
  refine aw_fl 27 ?_
  refine aw_sk ?_
  refine then_normal ?_
  refine aw_p 15 (
    .a 2 3 <| .p (does_mk (kl := .i64) (kc := .i64) (n' := 2) (c' := 2) 3 3 1 8 2 2 (.int .i64 0) [.int .i64 0, .int .i64 0] (by kernel_rfl) (by kernel_rfl) (by kernel_rfl) (by kernel_rfl) (by decide) (by decide) (by decide) (by decide) (by decide)) <| .a 1 4 <| .nil _ _) ?_
  refine aw_sq 30 31 ?_
  refine aw_p 61 (
    .a 3 4 <| .nil _ _) ?_
  refine aw_bl 0 123 ?_
  refine aw_lp 247 ?_
  refine al_round ?_
  refine aw_p 495 (
    .a 1 4 <| .nil _ _) ?_
  refine aw_sq 990 991 ?_
  refine aw_tr 1980 ?_
  refine aw_sk ?_
  refine then_normal ?_
  refine aw_sq 1982 1983 ?_
  refine aw_bl 1 3965 ?_
  refine aw_p 7931 (
    .a 5 4 <| .nil _ _) ?_
  refine aw_p 15863 (
    .a 3 4 <| .nil _ _) ?_
  refine aw_bl 2 31727 ?_
  refine aw_lp 63455 ?_
  refine al_round ?_
  refine aw_p 126911 (
    .a 1 4 <| .nil _ _) ?_
  refine aw_sq 253822 253823 ?_
  refine aw_tr 507644 ?_
  refine aw_sk ?_
  refine then_normal ?_
  refine aw_sq 507646 507647 ?_
  refine aw_bl 3 1015293 ?_
  refine aw_p 2030587 (
    .a 5 4 <| .nil _ _) ?_
  refine aw_p 4061175 (
    .a 9 4 <| .nil _ _) ?_
  refine aw_fl 8122351 ?_
  refine aw_sk ?_
  refine block_normal ?_
  refine then_normal ?_
  refine aw_p1 (
    .a 2 4 <| .nil _ _) ?_
  refine then_normal ?_
  refine al_round ?_
  refine aw_p 126911 (
    .a 1 4 <| .nil _ _) ?_
  refine aw_sq 253822 253823 ?_
  refine aw_tr 507644 ?_
  refine aw_sk ?_
  refine then_normal ?_
  refine aw_sq 507646 507647 ?_
  refine aw_bl 3 1015293 ?_
  refine aw_p 2030587 (
    .a 5 4 <| .nil _ _) ?_
  refine aw_p 4061175 (
    .a 6 4 <|
    .p (cS (m := 2) (args0 := [sV 0 R1.length, .int .i64 0, sV 1 R2.length]) (pre0 := [(0, (pB R1)), (1, (pB R2))]) (v0 := .int .i64 (-1)) #[.tmp 32, .const (.int .i64 0), .tmp 33] #[39, 3, 39] [sV 1 R1.length, .int .i64 0, sV 2 R2.length] [1, 2] [(1, (pB R1)), (2, (pB R2))] (.int .i64 (-1)) ((by have h := side_ok R1 R2 zR1 fR1 zR2 fR2 0 (by omega); rw [Sp.side_at F21.2.2 (by omega)] at h; exact h)) (.cons rS (.cons rF (.cons rS .nil))) ⟨rfl, bP, rfl, bP, trivial⟩ rF) <|
    .a 2 4 <| .nil _ _) ?_
  refine aw_fl 8122351 ?_
  refine aw_sk ?_
  refine block_normal ?_
  refine then_normal ?_
  refine aw_p1 (
    .a 2 4 <| .nil _ _) ?_
  refine then_normal ?_
  refine al_round ?_
  refine aw_p 126911 (
    .a 1 4 <| .nil _ _) ?_
  refine aw_sq 253822 253823 ?_
  refine aw_fl 507645 ?_
  refine aw_ex 2 ?_
  refine then_exit ?_
  refine then_exit ?_
  refine block_exit ?_
  refine block_normal ?_
  refine then_normal ?_
  refine aw_p1 (
    .a 2 4 <| .nil _ _) ?_
  refine then_normal ?_
  refine al_round ?_
  refine aw_p 495 (
    .a 1 4 <| .nil _ _) ?_
  refine aw_sq 990 991 ?_
  refine aw_tr 1980 ?_
  refine aw_sk ?_
  refine then_normal ?_
  refine aw_sq 1982 1983 ?_
  refine aw_bl 1 3965 ?_
  refine aw_p 7931 (
    .a 5 4 <| .nil _ _) ?_
  refine aw_p 15863 (
    .a 3 4 <| .nil _ _) ?_
  refine aw_bl 2 31727 ?_
  refine aw_lp 63455 ?_
  refine al_round ?_
  refine aw_p 126911 (
    .a 1 4 <| .nil _ _) ?_
  refine aw_sq 253822 253823 ?_
  refine aw_tr 507644 ?_
  refine aw_sk ?_
  refine then_normal ?_
  refine aw_sq 507646 507647 ?_
  refine aw_bl 3 1015293 ?_
  refine aw_p 2030587 (
    .a 5 4 <| .nil _ _) ?_
  refine aw_p 4061175 (
    .a 6 4 <|
    .p (cS (m := 2) (args0 := [sV 0 R2.length, .int .i64 0, sV 1 R1.length]) (pre0 := [(0, (pB R2)), (1, (pB R1))]) (v0 := .int .i64 1) #[.tmp 32, .const (.int .i64 0), .tmp 33] #[39, 3, 39] [sV 2 R2.length, .int .i64 0, sV 1 R1.length] [2, 1] [(2, (pB R2)), (1, (pB R1))] (.int .i64 1) ((by have h := side_ok R2 R1 zR2 fR2 zR1 fR1 0 (by omega); rw [Sp.side_at F21.2.1 (by omega)] at h; exact h)) (.cons rS (.cons rF (.cons rS .nil))) ⟨rfl, bP, rfl, bP, trivial⟩ rF) <|
    .a 2 4 <| .nil _ _) ?_
  refine aw_tr 8122350 ?_
  refine aw_p1 (
    .a 7 4 <| .nil _ _) ?_
  refine block_normal ?_
  refine then_normal ?_
  refine aw_p1 (
    .a 2 4 <| .nil _ _) ?_
  refine then_normal ?_
  refine al_round ?_
  refine aw_p 126911 (
    .a 1 4 <| .nil _ _) ?_
  refine aw_sq 253822 253823 ?_
  refine aw_tr 507644 ?_
  refine aw_sk ?_
  refine then_normal ?_
  refine aw_sq 507646 507647 ?_
  refine aw_bl 3 1015293 ?_
  refine aw_p 2030587 (
    .a 5 4 <| .nil _ _) ?_
  refine aw_p 4061175 (
    .a 9 4 <| .nil _ _) ?_
  refine aw_fl 8122351 ?_
  refine aw_sk ?_
  refine block_normal ?_
  refine then_normal ?_
  refine aw_p1 (
    .a 2 4 <| .nil _ _) ?_
  refine then_normal ?_
  refine al_round ?_
  refine aw_p 126911 (
    .a 1 4 <| .nil _ _) ?_
  refine aw_sq 253822 253823 ?_
  refine aw_fl 507645 ?_
  refine aw_ex 2 ?_
  refine then_exit ?_
  refine then_exit ?_
  refine block_exit ?_
  refine block_normal ?_
  refine then_normal ?_
  refine aw_p1 (
    .a 2 4 <| .nil _ _) ?_
  refine then_normal ?_
  refine al_round ?_
  refine aw_p 495 (
    .a 1 4 <| .nil _ _) ?_
  refine aw_sq 990 991 ?_
  refine aw_fl 1981 ?_
  refine aw_ex 0 ?_
  refine then_exit ?_
  refine then_exit ?_
  refine block_exit ?_
  refine then_normal ?_
  refine aw_p 63 (
    .a 2 4 <| .nil _ _) ?_
  refine aw_rt ?_
  exact en_ret [sV 3 2] (by kernel_rfl)
theorem atwice_n2 (R1 R2 : List (Int × Int)) (zR1 : 1 ≤ R1.length ∧ R1.length ≤ 200) (fR1 : Sp.Few 1000 R1) (zR2 : 1 ≤ R2.length ∧ R2.length ≤ 200) (fR2 : Sp.Few 1000 R2) (cR1 : Sp.chkF R1 = 0) (cR2 : Sp.chkF R2 = 0) (F21 : Sp.Fit R2 R1 1 (-1)) (a1 a2 : Int) (t1 : Sp.twF R1 1 0 = a1) (b1 : -100000 ≤ a1 ∧ a1 ≤ 100000) (t2 : Sp.twF R2 1 0 = a2) (b2 : -100000 ≤ a2 ∧ a2 ≤ 100000) :
    AC Tryz.prog 10 3 ([sV 0 2]) [(0, ⟨[sV 1 R1.length, sV 2 R2.length], 39, true, 1⟩), (1, (pB R1)), (2, (pB R2))] (.int .i64 ((0 + (Sp.mx a1 (0 - a1))) + (0 - (Sp.mx a2 (0 - a2))))) [(0, ⟨[sV 1 R1.length, sV 2 R2.length], 39, true, 1⟩), (1, (pB R1)), (2, (pB R2))] := by
  have m1 : 0 ≤ Sp.mx a1 (0 - a1) ∧ Sp.mx a1 (0 - a1) ≤ 100000 := (by unfold Sp.mx; split <;> omega); have m2 : 0 ≤ Sp.mx a2 (0 - a2) ∧ Sp.mx a2 (0 - a2) ≤ 100000 := (by unfold Sp.mx; split <;> omega)
  refine ac_in Tryz.func10 (fun w0 W pin => ?_)
  refine aw_p 3 (
    .a 1 3 <| .nil _ _) ?_
  refine aw_p 7 (
    .a 1 3 <| .nil _ _) ?_
  refine aw_sq 14 15 ?_
  refine aw_p 29 (
    .a 1 3 <|
    .p (cF #[.tmp 7] #[25] [sV 0 2] 1 [0, 1, 2, 3] [(0, ⟨[sV 1 R1.length, sV 2 R2.length], 39, true, 1⟩), (1, (pB R1)), (2, (pB R2))] [(0, ⟨[sV 1 R1.length, sV 2 R2.length], 39, true, 1⟩), (1, (pB R1)), (2, (pB R2)), (3, ⟨[.int .i64 0, .int .i64 1], 3, true, 1⟩)] (sV 3 2) (adepth_n2 R1 R2 zR1 fR1 zR2 fR2 cR1 cR2 F21) (.cons rS .nil) ⟨rfl, ⟨rfl, rfl, rfl, (.cons rS (.cons rS .nil))⟩, rfl, bP, rfl, bP, trivial⟩ ⟨rfl, ⟨rfl, rfl, rfl, (.cons rS (.cons rS .nil))⟩, rfl, bP, rfl, bP, rfl, ⟨rfl, rfl, rfl, (.flats (by kernel_rfl))⟩, trivial⟩ rS) <|
    .a 2 4 <| .nil _ _) ?_
  refine aw_bl 0 59 ?_
  refine aw_lp 119 ?_
  refine al_round ?_
  refine aw_p 239 (
    .a 1 4 <| .nil _ _) ?_
  refine aw_sq 478 479 ?_
  refine aw_tr 956 ?_
  refine aw_sk ?_
  refine then_normal ?_
  refine aw_sq 958 959 ?_
  refine aw_bl 1 1917 ?_
  refine aw_p 3835 (
    .a 5 4 <| .nil _ _) ?_
  refine aw_p 7671 (
    .a 4 4 <| .p (cS (m := 1) (args0 := [sV 0 R1.length]) (pre0 := [(0, (pB R1))]) (v0 := .int .i64 a1) #[.tmp 18] #[39] [sV 1 R1.length] [1] [(1, (pB R1))] (.int .i64 a1) ((by have h := twicen_own R1 R1.length rfl (by omega); rw [t1] at h; exact h)) (.cons rS .nil) ⟨rfl, bP, trivial⟩ rF) <| .a 1 4 <| .nil _ _) ?_
  refine aw_p 15343 (
    .a 2 4 <| .p (does_i (0 - a1) (wrap_i64 (by omega) (by omega)) .i64) <| .a 2 4 <| .nil _ _) ?_
  refine aw_sq 30686 30687 ?_
  refine aw_p 61373 (
    .a 3 4 <| .nil _ _) ?_
  refine aw_fl 122747 ?_
  refine aw_sk ?_
  refine then_normal ?_
  refine aw_p1 (
    .a 2 4 <| .p (does_i (0 + (Sp.mx a1 (0 - a1))) (wrap_i64 (by omega) (by omega)) .i64) <| .a 1 4 <| .nil _ _) ?_
  refine block_normal ?_
  refine then_normal ?_
  refine aw_p1 (
    .a 2 4 <| .nil _ _) ?_
  refine then_normal ?_
  refine al_round ?_
  refine aw_p 239 (
    .a 1 4 <| .nil _ _) ?_
  refine aw_sq 478 479 ?_
  refine aw_tr 956 ?_
  refine aw_sk ?_
  refine then_normal ?_
  refine aw_sq 958 959 ?_
  refine aw_bl 1 1917 ?_
  refine aw_p 3835 (
    .a 5 4 <| .nil _ _) ?_
  refine aw_p 7671 (
    .a 4 4 <| .p (cS (m := 1) (args0 := [sV 0 R2.length]) (pre0 := [(0, (pB R2))]) (v0 := .int .i64 a2) #[.tmp 18] #[39] [sV 2 R2.length] [2] [(2, (pB R2))] (.int .i64 a2) ((by have h := twicen_own R2 R2.length rfl (by omega); rw [t2] at h; exact h)) (.cons rS .nil) ⟨rfl, bP, trivial⟩ rF) <| .a 1 4 <| .nil _ _) ?_
  refine aw_p 15343 (
    .a 2 4 <| .p (does_i (0 - a2) (wrap_i64 (by omega) (by omega)) .i64) <| .a 2 4 <| .nil _ _) ?_
  refine aw_sq 30686 30687 ?_
  refine aw_p 61373 (
    .a 3 4 <| .nil _ _) ?_
  refine aw_tr 122746 ?_
  refine aw_p1 (
    .a 1 4 <| .p (does_i (0 - (Sp.mx a2 (0 - a2))) (wrap_i64 (by omega) (by omega)) .i64) <| .a 1 4 <| .nil _ _) ?_
  refine then_normal ?_
  refine aw_p1 (
    .a 2 4 <| .p (does_i ((0 + (Sp.mx a1 (0 - a1))) + (0 - (Sp.mx a2 (0 - a2)))) (wrap_i64 (by omega) (by omega)) .i64) <| .a 1 4 <| .nil _ _) ?_
  refine block_normal ?_
  refine then_normal ?_
  refine aw_p1 (
    .a 2 4 <| .nil _ _) ?_
  refine then_normal ?_
  refine al_round ?_
  refine aw_p 239 (
    .a 1 4 <| .nil _ _) ?_
  refine aw_sq 478 479 ?_
  refine aw_fl 957 ?_
  refine aw_ex 0 ?_
  refine then_exit ?_
  refine then_exit ?_
  refine block_exit ?_
  refine then_normal ?_
  refine aw_p 31 (
    .a 2 4 <| .nil _ _) ?_
  refine aw_rt ?_
  exact en_ret [.int .i64 ((0 + (Sp.mx a1 (0 - a1))) + (0 - (Sp.mx a2 (0 - a2))))] (by kernel_rfl)
end Go.Proofs.YtndkhgfecnbmnaaGreat.Am

namespace Go.Proofs.YtndkhgfecnbmnaaGreat.Am
open Go Go.Proofs
set_option maxRecDepth 100000
set_option maxHeartbeats 4000000
set_option linter.unusedVariables false
set_option linter.unusedSimpArgs false
theorem acheck_o2 (R1 R2 R3 : List (Int × Int)) (zR1 : 1 ≤ R1.length ∧ R1.length ≤ 200) (fR1 : Sp.Few 1000 R1) (zR2 : 1 ≤ R2.length ∧ R2.length ≤ 200) (fR2 : Sp.Few 1000 R2) (zR3 : 1 ≤ R3.length ∧ R3.length ≤ 200) (fR3 : Sp.Few 1000 R3) (cR1 : Sp.chkF R1 = 0) (cR2 : Sp.chkF R2 = 0) (cR3 : Sp.chkF R3 = 0) (F21 : Sp.Fit R2 R1 1 (-1)) (F31 : Sp.Fit R3 R1 (-1) 1) (F32 : Sp.Fit R3 R2 (-1) 1) :
    AC Tryz.prog 8 4 ([sV 0 3]) [(0, ⟨[sV 1 R1.length, sV 2 R2.length, sV 3 R3.length], 39, true, 1⟩), (1, (pB R1)), (2, (pB R2)), (3, (pB R3))] (.int .i64 0) [(0, ⟨[sV 1 R1.length, sV 2 R2.length, sV 3 R3.length], 39, true, 1⟩), (1, (pB R1)), (2, (pB R2)), (3, (pB R3))] := by
  refine ac_in Tryz.func8 (fun w0 W pin => ?_)
  refine aw_p 3 (
    .a 1 4 <| .nil _ _) ?_
  refine aw_sq 6 7 ?_
  refine aw_p 13 (
    .a 3 4 <| .nil _ _) ?_
  refine aw_fl 27 ?_
  refine aw_sk ?_
  refine then_normal ?_
  refine aw_sq 14 15 ?_
  refine aw_p 29 (
    .a 3 4 <| .nil _ _) ?_
  refine aw_bl 0 59 ?_
  refine aw_lp 119 ?_
  refine al_round ?_
  refine aw_p 239 (
    .a 1 4 <| .nil _ _) ?_
  refine aw_sq 478 479 ?_
  refine aw_tr 956 ?_
  refine aw_sk ?_
  refine then_normal ?_
  refine aw_sq 958 959 ?_
  refine aw_bl 1 1917 ?_
  refine aw_p 3835 (
    .a 3 4 <| .nil _ _) ?_
  refine aw_p 7671 (
    .a 1 4 <| .p (cS (m := 1) (args0 := [sV 0 R1.length]) (pre0 := [(0, (pB R1))]) (v0 := .int .i64 0) #[.tmp 19] #[39] [sV 1 R1.length] [1] [(1, (pB R1))] (.int .i64 0) ((by have h := chkn_own R1 R1.length rfl (by omega); rw [cR1] at h; exact h)) (.cons rS .nil) ⟨rfl, bP, trivial⟩ rF) <| .a 1 4 <| .nil _ _) ?_
  refine aw_p 15343 (
    .a 2 4 <| .nil _ _) ?_
  refine aw_fl 30687 ?_
  refine aw_sk ?_
  refine block_normal ?_
  refine then_normal ?_
  refine aw_p1 (
    .a 2 4 <| .nil _ _) ?_
  refine then_normal ?_
  refine al_round ?_
  refine aw_p 239 (
    .a 1 4 <| .nil _ _) ?_
  refine aw_sq 478 479 ?_
  refine aw_tr 956 ?_
  refine aw_sk ?_
  refine then_normal ?_
  refine aw_sq 958 959 ?_
  refine aw_bl 1 1917 ?_
  refine aw_p 3835 (
    .a 3 4 <| .nil _ _) ?_
  refine aw_p 7671 (
    .a 1 4 <| .p (cS (m := 1) (args0 := [sV 0 R2.length]) (pre0 := [(0, (pB R2))]) (v0 := .int .i64 0) #[.tmp 19] #[39] [sV 2 R2.length] [2] [(2, (pB R2))] (.int .i64 0) ((by have h := chkn_own R2 R2.length rfl (by omega); rw [cR2] at h; exact h)) (.cons rS .nil) ⟨rfl, bP, trivial⟩ rF) <| .a 1 4 <| .nil _ _) ?_
  refine aw_p 15343 (
    .a 2 4 <| .nil _ _) ?_
  refine aw_fl 30687 ?_
  refine aw_sk ?_
  refine block_normal ?_
  refine then_normal ?_
  refine aw_p1 (
    .a 2 4 <| .nil _ _) ?_
  refine then_normal ?_
  refine al_round ?_
  refine aw_p 239 (
    .a 1 4 <| .nil _ _) ?_
  refine aw_sq 478 479 ?_
  refine aw_tr 956 ?_
  refine aw_sk ?_
  refine then_normal ?_
  refine aw_sq 958 959 ?_
  refine aw_bl 1 1917 ?_
  refine aw_p 3835 (
    .a 3 4 <| .nil _ _) ?_
  refine aw_p 7671 (
    .a 1 4 <| .p (cS (m := 1) (args0 := [sV 0 R3.length]) (pre0 := [(0, (pB R3))]) (v0 := .int .i64 0) #[.tmp 19] #[39] [sV 3 R3.length] [3] [(3, (pB R3))] (.int .i64 0) ((by have h := chkn_own R3 R3.length rfl (by omega); rw [cR3] at h; exact h)) (.cons rS .nil) ⟨rfl, bP, trivial⟩ rF) <| .a 1 4 <| .nil _ _) ?_
  refine aw_p 15343 (
    .a 2 4 <| .nil _ _) ?_
  refine aw_fl 30687 ?_
  refine aw_sk ?_
  refine block_normal ?_
  refine then_normal ?_
  refine aw_p1 (
    .a 2 4 <| .nil _ _) ?_
  refine then_normal ?_
  refine al_round ?_
  refine aw_p 239 (
    .a 1 4 <| .nil _ _) ?_
  refine aw_sq 478 479 ?_
  refine aw_fl 957 ?_
  refine aw_ex 0 ?_
  refine then_exit ?_
  refine then_exit ?_
  refine block_exit ?_
  refine then_normal ?_
  refine aw_sq 30 31 ?_
  refine aw_p 61 (
    .a 3 4 <| .nil _ _) ?_
  refine aw_bl 2 123 ?_
  refine aw_lp 247 ?_
  refine al_round ?_
  refine aw_p 495 (
    .a 1 4 <| .nil _ _) ?_
  refine aw_sq 990 991 ?_
  refine aw_tr 1980 ?_
  refine aw_sk ?_
  refine then_normal ?_
  refine aw_sq 1982 1983 ?_
  refine aw_bl 3 3965 ?_
  refine aw_p 7931 (
    .a 5 4 <| .nil _ _) ?_
  refine aw_p 15863 (
    .a 2 4 <|
    .p (does_val (v' := sV 0 0) (does_slice (t := 25) (x := .tmp 32) (lo := none) (hi := some (.tmp 33)) (k := 0) (off := 0) (n := 3) (c := 0) (z := 1) (l := 0) (h := 0) (m := 0) (b := ⟨[sV 1 R1.length, sV 2 R2.length, sV 3 R3.length], 39, true, 1⟩) (by kernel_rfl) (by kernel_rfl) (by kernel_rfl) (by kernel_rfl) (by kernel_rfl) (by kernel_rfl) (by kernel_rfl) (by kernel_rfl) (by decide) (by decide) (by decide) (by decide)) (by kernel_rfl)) <|
    .a 2 4 <| .nil _ _) ?_
  refine aw_bl 4 31727 ?_
  refine aw_lp 63455 ?_
  refine al_round ?_
  refine aw_p 126911 (
    .a 1 4 <| .nil _ _) ?_
  refine aw_sq 253822 253823 ?_
  refine aw_fl 507645 ?_
  refine aw_ex 4 ?_
  refine then_exit ?_
  refine then_exit ?_
  refine block_exit ?_
  refine block_normal ?_
  refine then_normal ?_
  refine aw_p1 (
    .a 2 4 <| .nil _ _) ?_
  refine then_normal ?_
  refine al_round ?_
  refine aw_p 495 (
    .a 1 4 <| .nil _ _) ?_
  refine aw_sq 990 991 ?_
  refine aw_tr 1980 ?_
  refine aw_sk ?_
  refine then_normal ?_
  refine aw_sq 1982 1983 ?_
  refine aw_bl 3 3965 ?_
  refine aw_p 7931 (
    .a 5 4 <| .nil _ _) ?_
  refine aw_p 15863 (
    .a 2 4 <|
    .p (does_val (v' := sV 0 1) (does_slice (t := 25) (x := .tmp 32) (lo := none) (hi := some (.tmp 33)) (k := 0) (off := 0) (n := 3) (c := 0) (z := 1) (l := 0) (h := 1) (m := 1) (b := ⟨[sV 1 R1.length, sV 2 R2.length, sV 3 R3.length], 39, true, 1⟩) (by kernel_rfl) (by kernel_rfl) (by kernel_rfl) (by kernel_rfl) (by kernel_rfl) (by kernel_rfl) (by kernel_rfl) (by kernel_rfl) (by decide) (by decide) (by decide) (by decide)) (by kernel_rfl)) <|
    .a 2 4 <| .nil _ _) ?_
  refine aw_bl 4 31727 ?_
  refine aw_lp 63455 ?_
  refine al_round ?_
  refine aw_p 126911 (
    .a 1 4 <| .nil _ _) ?_
  refine aw_sq 253822 253823 ?_
  refine aw_tr 507644 ?_
  refine aw_sk ?_
  refine then_normal ?_
  refine aw_sq 507646 507647 ?_
  refine aw_bl 5 1015293 ?_
  refine aw_p 2030587 (
    .a 3 4 <| .nil _ _) ?_
  refine aw_p 4061175 (
    .a 2 4 <| .p (cS #[.tmp 40, .tmp 41] #[39, 39] [sV 2 R2.length, sV 1 R1.length] [2, 1] [(2, (pB R2)), (1, (pB R1))] (.bool true) (fits_ok R2 R1 1 (-1) zR2 fR2 zR1 fR1 F21) (.cons rS (.cons rS .nil)) ⟨rfl, bP, rfl, bP, trivial⟩ rF) <| .a 1 4 <| .nil _ _) ?_
  refine aw_fl 8122351 ?_
  refine aw_sk ?_
  refine block_normal ?_
  refine then_normal ?_
  refine aw_p1 (
    .a 2 4 <| .nil _ _) ?_
  refine then_normal ?_
  refine al_round ?_
  refine aw_p 126911 (
    .a 1 4 <| .nil _ _) ?_
  refine aw_sq 253822 253823 ?_
  refine aw_fl 507645 ?_
  refine aw_ex 4 ?_
  refine then_exit ?_
  refine then_exit ?_
  refine block_exit ?_
  refine block_normal ?_
  refine then_normal ?_
  refine aw_p1 (
    .a 2 4 <| .nil _ _) ?_
  refine then_normal ?_
  refine al_round ?_
  refine aw_p 495 (
    .a 1 4 <| .nil _ _) ?_
  refine aw_sq 990 991 ?_
  refine aw_tr 1980 ?_
  refine aw_sk ?_
  refine then_normal ?_
  refine aw_sq 1982 1983 ?_
  refine aw_bl 3 3965 ?_
  refine aw_p 7931 (
    .a 5 4 <| .nil _ _) ?_
  refine aw_p 15863 (
    .a 2 4 <|
    .p (does_val (v' := sV 0 2) (does_slice (t := 25) (x := .tmp 32) (lo := none) (hi := some (.tmp 33)) (k := 0) (off := 0) (n := 3) (c := 0) (z := 1) (l := 0) (h := 2) (m := 2) (b := ⟨[sV 1 R1.length, sV 2 R2.length, sV 3 R3.length], 39, true, 1⟩) (by kernel_rfl) (by kernel_rfl) (by kernel_rfl) (by kernel_rfl) (by kernel_rfl) (by kernel_rfl) (by kernel_rfl) (by kernel_rfl) (by decide) (by decide) (by decide) (by decide)) (by kernel_rfl)) <|
    .a 2 4 <| .nil _ _) ?_
  refine aw_bl 4 31727 ?_
  refine aw_lp 63455 ?_
  refine al_round ?_
  refine aw_p 126911 (
    .a 1 4 <| .nil _ _) ?_
  refine aw_sq 253822 253823 ?_
  refine aw_tr 507644 ?_
  refine aw_sk ?_
  refine then_normal ?_
  refine aw_sq 507646 507647 ?_
  refine aw_bl 5 1015293 ?_
  refine aw_p 2030587 (
    .a 3 4 <| .nil _ _) ?_
  refine aw_p 4061175 (
    .a 2 4 <| .p (cS #[.tmp 40, .tmp 41] #[39, 39] [sV 3 R3.length, sV 1 R1.length] [3, 1] [(3, (pB R3)), (1, (pB R1))] (.bool true) (fits_ok R3 R1 (-1) 1 zR3 fR3 zR1 fR1 F31) (.cons rS (.cons rS .nil)) ⟨rfl, bP, rfl, bP, trivial⟩ rF) <| .a 1 4 <| .nil _ _) ?_
  refine aw_fl 8122351 ?_
  refine aw_sk ?_
  refine block_normal ?_
  refine then_normal ?_
  refine aw_p1 (
    .a 2 4 <| .nil _ _) ?_
  refine then_normal ?_
  refine al_round ?_
  refine aw_p 126911 (
    .a 1 4 <| .nil _ _) ?_
  refine aw_sq 253822 253823 ?_
  refine aw_tr 507644 ?_
  refine aw_sk ?_
  refine then_normal ?_
  refine aw_sq 507646 507647 ?_
  refine aw_bl 5 1015293 ?_
  refine aw_p 2030587 (
    .a 3 4 <| .nil _ _) ?_
  refine aw_p 4061175 (
    .a 2 4 <| .p (cS #[.tmp 40, .tmp 41] #[39, 39] [sV 3 R3.length, sV 2 R2.length] [3, 2] [(3, (pB R3)), (2, (pB R2))] (.bool true) (fits_ok R3 R2 (-1) 1 zR3 fR3 zR2 fR2 F32) (.cons rS (.cons rS .nil)) ⟨rfl, bP, rfl, bP, trivial⟩ rF) <| .a 1 4 <| .nil _ _) ?_
  refine aw_fl 8122351 ?_
  refine aw_sk ?_
  refine block_normal ?_
  refine then_normal ?_
  refine aw_p1 (
    .a 2 4 <| .nil _ _) ?_
  refine then_normal ?_
  refine al_round ?_
  refine aw_p 126911 (
    .a 1 4 <| .nil _ _) ?_
  refine aw_sq 253822 253823 ?_
  refine aw_fl 507645 ?_
  refine aw_ex 4 ?_
  refine then_exit ?_
  refine then_exit ?_
  refine block_exit ?_
  refine block_normal ?_
  refine then_normal ?_
  refine aw_p1 (
    .a 2 4 <| .nil _ _) ?_
  refine then_normal ?_
  refine al_round ?_
  refine aw_p 495 (
    .a 1 4 <| .nil _ _) ?_
  refine aw_sq 990 991 ?_
  refine aw_fl 1981 ?_
  refine aw_ex 2 ?_
  refine then_exit ?_
  refine then_exit ?_
  refine block_exit ?_
  refine then_normal ?_
  refine aw_p 63 (
    .a 1 4 <| .nil _ _) ?_
  refine aw_rt ?_
  exact en_ret [.int .i64 0] (by kernel_rfl)
theorem adepth_o2 (R1 R2 R3 : List (Int × Int)) (zR1 : 1 ≤ R1.length ∧ R1.length ≤ 200) (fR1 : Sp.Few 1000 R1) (zR2 : 1 ≤ R2.length ∧ R2.length ≤ 200) (fR2 : Sp.Few 1000 R2) (zR3 : 1 ≤ R3.length ∧ R3.length ≤ 200) (fR3 : Sp.Few 1000 R3) (cR1 : Sp.chkF R1 = 0) (cR2 : Sp.chkF R2 = 0) (cR3 : Sp.chkF R3 = 0) (F21 : Sp.Fit R2 R1 1 (-1)) (F31 : Sp.Fit R3 R1 (-1) 1) (F32 : Sp.Fit R3 R2 (-1) 1) :
    AC Tryz.prog 27 4 ([sV 0 3]) [(0, ⟨[sV 1 R1.length, sV 2 R2.length, sV 3 R3.length], 39, true, 1⟩), (1, (pB R1)), (2, (pB R2)), (3, (pB R3))] (sV 4 3) [(0, ⟨[sV 1 R1.length, sV 2 R2.length, sV 3 R3.length], 39, true, 1⟩), (1, (pB R1)), (2, (pB R2)), (3, (pB R3)), (4, ⟨[.int .i64 1, .int .i64 2, .int .i64 0], 3, true, 1⟩)] := by
  refine ac_in Tryz.func27 (fun w0 W pin => ?_)
  refine aw_p 3 (
    .a 1 4 <| .nil _ _) ?_
  refine aw_sq 6 7 ?_
  refine aw_p 13 (
    .a 1 4 <|
    .p (cS #[.tmp 8] #[25] [sV 0 3] [0, 1, 2, 3] [(0, ⟨[sV 1 R1.length, sV 2 R2.length, sV 3 R3.length], 39, true, 1⟩), (1, (pB R1)), (2, (pB R2)), (3, (pB R3))] (.int .i64 0) (acheck_o2 R1 R2 R3 zR1 fR1 zR2 fR2 zR3 fR3 cR1 cR2 cR3 F21 F31 F32) (.cons rS .nil) ⟨rfl, ⟨rfl, rfl, rfl, (.cons rS (.cons rS (.cons rS .nil)))⟩, rfl, bP, rfl, bP, rfl, bP, trivial⟩ rF) <|
    .a 1 4 <| .nil _ _) ?_
  refine aw_fl 27 ?_
  refine aw_sk ?_
  refine then_normal ?_
  refine aw_p 15 (
    .a 2 4 <| .p (does_mk (kl := .i64) (kc := .i64) (n' := 3) (c' := 3) 4 3 1 8 3 3 (.int .i64 0) [.int .i64 0, .int .i64 0, .int .i64 0] (by kernel_rfl) (by kernel_rfl) (by kernel_rfl) (by kernel_rfl) (by decide) (by decide) (by decide) (by decide) (by decide)) <| .a 1 5 <| .nil _ _) ?_
  refine aw_sq 30 31 ?_
  refine aw_p 61 (
    .a 3 5 <| .nil _ _) ?_
  refine aw_bl 0 123 ?_
  refine aw_lp 247 ?_
  refine al_round ?_
  refine aw_p 495 (
    .a 1 5 <| .nil _ _) ?_
  refine aw_sq 990 991 ?_
  refine aw_tr 1980 ?_
  refine aw_sk ?_
  refine then_normal ?_
  refine aw_sq 1982 1983 ?_
  refine aw_bl 1 3965 ?_
  refine aw_p 7931 (
    .a 5 5 <| .nil _ _) ?_
  refine aw_p 15863 (
    .a 3 5 <| .nil _ _) ?_
  refine aw_bl 2 31727 ?_
  refine aw_lp 63455 ?_
  refine al_round ?_
  refine aw_p 126911 (
    .a 1 5 <| .nil _ _) ?_
  refine aw_sq 253822 253823 ?_
  refine aw_tr 507644 ?_
  refine aw_sk ?_
  refine then_normal ?_
  refine aw_sq 507646 507647 ?_
  refine aw_bl 3 1015293 ?_
  refine aw_p 2030587 (
    .a 5 5 <| .nil _ _) ?_
  refine aw_p 4061175 (
    .a 9 5 <| .nil _ _) ?_
  refine aw_fl 8122351 ?_
  refine aw_sk ?_
  refine block_normal ?_
  refine then_normal ?_
  refine aw_p1 (
    .a 2 5 <| .nil _ _) ?_
  refine then_normal ?_
  refine al_round ?_
  refine aw_p 126911 (
    .a 1 5 <| .nil _ _) ?_
  refine aw_sq 253822 253823 ?_
  refine aw_tr 507644 ?_
  refine aw_sk ?_
  refine then_normal ?_
  refine aw_sq 507646 507647 ?_
  refine aw_bl 3 1015293 ?_
  refine aw_p 2030587 (
    .a 5 5 <| .nil _ _) ?_
  refine aw_p 4061175 (
    .a 6 5 <|
    .p (cS (m := 2) (args0 := [sV 0 R1.length, .int .i64 0, sV 1 R2.length]) (pre0 := [(0, (pB R1)), (1, (pB R2))]) (v0 := .int .i64 (-1)) #[.tmp 32, .const (.int .i64 0), .tmp 33] #[39, 3, 39] [sV 1 R1.length, .int .i64 0, sV 2 R2.length] [1, 2] [(1, (pB R1)), (2, (pB R2))] (.int .i64 (-1)) ((by have h := side_ok R1 R2 zR1 fR1 zR2 fR2 0 (by omega); rw [Sp.side_at F21.2.2 (by omega)] at h; exact h)) (.cons rS (.cons rF (.cons rS .nil))) ⟨rfl, bP, rfl, bP, trivial⟩ rF) <|
    .a 2 5 <| .nil _ _) ?_
  refine aw_fl 8122351 ?_
  refine aw_sk ?_
  refine block_normal ?_
  refine then_normal ?_
  refine aw_p1 (
    .a 2 5 <| .nil _ _) ?_
  refine then_normal ?_
  refine al_round ?_
  refine aw_p 126911 (
    .a 1 5 <| .nil _ _) ?_
  refine aw_sq 253822 253823 ?_
  refine aw_tr 507644 ?_
  refine aw_sk ?_
  refine then_normal ?_
  refine aw_sq 507646 507647 ?_
  refine aw_bl 3 1015293 ?_
  refine aw_p 2030587 (
    .a 5 5 <| .nil _ _) ?_
  refine aw_p 4061175 (
    .a 6 5 <|
    .p (cS (m := 2) (args0 := [sV 0 R1.length, .int .i64 0, sV 1 R3.length]) (pre0 := [(0, (pB R1)), (1, (pB R3))]) (v0 := .int .i64 1) #[.tmp 32, .const (.int .i64 0), .tmp 33] #[39, 3, 39] [sV 1 R1.length, .int .i64 0, sV 3 R3.length] [1, 3] [(1, (pB R1)), (3, (pB R3))] (.int .i64 1) ((by have h := side_ok R1 R3 zR1 fR1 zR3 fR3 0 (by omega); rw [Sp.side_at F31.2.2 (by omega)] at h; exact h)) (.cons rS (.cons rF (.cons rS .nil))) ⟨rfl, bP, rfl, bP, trivial⟩ rF) <|
    .a 2 5 <| .nil _ _) ?_
  refine aw_tr 8122350 ?_
  refine aw_p1 (
    .a 7 5 <| .nil _ _) ?_
  refine block_normal ?_
  refine then_normal ?_
  refine aw_p1 (
    .a 2 5 <| .nil _ _) ?_
  refine then_normal ?_
  refine al_round ?_
  refine aw_p 126911 (
    .a 1 5 <| .nil _ _) ?_
  refine aw_sq 253822 253823 ?_
  refine aw_fl 507645 ?_
  refine aw_ex 2 ?_
  refine then_exit ?_
  refine then_exit ?_
  refine block_exit ?_
  refine block_normal ?_
  refine then_normal ?_
  refine aw_p1 (
    .a 2 5 <| .nil _ _) ?_
  refine then_normal ?_
  refine al_round ?_
  refine aw_p 495 (
    .a 1 5 <| .nil _ _) ?_
  refine aw_sq 990 991 ?_
  refine aw_tr 1980 ?_
  refine aw_sk ?_
  refine then_normal ?_
  refine aw_sq 1982 1983 ?_
  refine aw_bl 1 3965 ?_
  refine aw_p 7931 (
    .a 5 5 <| .nil _ _) ?_
  refine aw_p 15863 (
    .a 3 5 <| .nil _ _) ?_
  refine aw_bl 2 31727 ?_
  refine aw_lp 63455 ?_
  refine al_round ?_
  refine aw_p 126911 (
    .a 1 5 <| .nil _ _) ?_
  refine aw_sq 253822 253823 ?_
  refine aw_tr 507644 ?_
  refine aw_sk ?_
  refine then_normal ?_
  refine aw_sq 507646 507647 ?_
  refine aw_bl 3 1015293 ?_
  refine aw_p 2030587 (
    .a 5 5 <| .nil _ _) ?_
  refine aw_p 4061175 (
    .a 6 5 <|
    .p (cS (m := 2) (args0 := [sV 0 R2.length, .int .i64 0, sV 1 R1.length]) (pre0 := [(0, (pB R2)), (1, (pB R1))]) (v0 := .int .i64 1) #[.tmp 32, .const (.int .i64 0), .tmp 33] #[39, 3, 39] [sV 2 R2.length, .int .i64 0, sV 1 R1.length] [2, 1] [(2, (pB R2)), (1, (pB R1))] (.int .i64 1) ((by have h := side_ok R2 R1 zR2 fR2 zR1 fR1 0 (by omega); rw [Sp.side_at F21.2.1 (by omega)] at h; exact h)) (.cons rS (.cons rF (.cons rS .nil))) ⟨rfl, bP, rfl, bP, trivial⟩ rF) <|
    .a 2 5 <| .nil _ _) ?_
  refine aw_tr 8122350 ?_
  refine aw_p1 (
    .a 7 5 <| .nil _ _) ?_
  refine block_normal ?_
  refine then_normal ?_
  refine aw_p1 (
    .a 2 5 <| .nil _ _) ?_
  refine then_normal ?_
  refine al_round ?_
  refine aw_p 126911 (
    .a 1 5 <| .nil _ _) ?_
  refine aw_sq 253822 253823 ?_
  refine aw_tr 507644 ?_
  refine aw_sk ?_
  refine then_normal ?_
  refine aw_sq 507646 507647 ?_
  refine aw_bl 3 1015293 ?_
  refine aw_p 2030587 (
    .a 5 5 <| .nil _ _) ?_
  refine aw_p 4061175 (
    .a 9 5 <| .nil _ _) ?_
  refine aw_fl 8122351 ?_
  refine aw_sk ?_
  refine block_normal ?_
  refine then_normal ?_
  refine aw_p1 (
    .a 2 5 <| .nil _ _) ?_
  refine then_normal ?_
  refine al_round ?_
  refine aw_p 126911 (
    .a 1 5 <| .nil _ _) ?_
  refine aw_sq 253822 253823 ?_
  refine aw_tr 507644 ?_
  refine aw_sk ?_
  refine then_normal ?_
  refine aw_sq 507646 507647 ?_
  refine aw_bl 3 1015293 ?_
  refine aw_p 2030587 (
    .a 5 5 <| .nil _ _) ?_
  refine aw_p 4061175 (
    .a 6 5 <|
    .p (cS (m := 2) (args0 := [sV 0 R2.length, .int .i64 0, sV 1 R3.length]) (pre0 := [(0, (pB R2)), (1, (pB R3))]) (v0 := .int .i64 1) #[.tmp 32, .const (.int .i64 0), .tmp 33] #[39, 3, 39] [sV 2 R2.length, .int .i64 0, sV 3 R3.length] [2, 3] [(2, (pB R2)), (3, (pB R3))] (.int .i64 1) ((by have h := side_ok R2 R3 zR2 fR2 zR3 fR3 0 (by omega); rw [Sp.side_at F32.2.2 (by omega)] at h; exact h)) (.cons rS (.cons rF (.cons rS .nil))) ⟨rfl, bP, rfl, bP, trivial⟩ rF) <|
    .a 2 5 <| .nil _ _) ?_
  refine aw_tr 8122350 ?_
  refine aw_p1 (
    .a 7 5 <| .nil _ _) ?_
  refine block_normal ?_
  refine then_normal ?_
  refine aw_p1 (
    .a 2 5 <| .nil _ _) ?_
  refine then_normal ?_
  refine al_round ?_
  refine aw_p 126911 (
    .a 1 5 <| .nil _ _) ?_
  refine aw_sq 253822 253823 ?_
  refine aw_fl 507645 ?_
  refine aw_ex 2 ?_
  refine then_exit ?_
  refine then_exit ?_
  refine block_exit ?_
  refine block_normal ?_
  refine then_normal ?_
  refine aw_p1 (
    .a 2 5 <| .nil _ _) ?_
  refine then_normal ?_
  refine al_round ?_
  refine aw_p 495 (
    .a 1 5 <| .nil _ _) ?_
  refine aw_sq 990 991 ?_
  refine aw_tr 1980 ?_
  refine aw_sk ?_
  refine then_normal ?_
  refine aw_sq 1982 1983 ?_
  refine aw_bl 1 3965 ?_
  refine aw_p 7931 (
    .a 5 5 <| .nil _ _) ?_
  refine aw_p 15863 (
    .a 3 5 <| .nil _ _) ?_
  refine aw_bl 2 31727 ?_
  refine aw_lp 63455 ?_
  refine al_round ?_
  refine aw_p 126911 (
    .a 1 5 <| .nil _ _) ?_
  refine aw_sq 253822 253823 ?_
  refine aw_tr 507644 ?_
  refine aw_sk ?_
  refine then_normal ?_
  refine aw_sq 507646 507647 ?_
  refine aw_bl 3 1015293 ?_
  refine aw_p 2030587 (
    .a 5 5 <| .nil _ _) ?_
  refine aw_p 4061175 (
    .a 6 5 <|
    .p (cS (m := 2) (args0 := [sV 0 R3.length, .int .i64 0, sV 1 R1.length]) (pre0 := [(0, (pB R3)), (1, (pB R1))]) (v0 := .int .i64 (-1)) #[.tmp 32, .const (.int .i64 0), .tmp 33] #[39, 3, 39] [sV 3 R3.length, .int .i64 0, sV 1 R1.length] [3, 1] [(3, (pB R3)), (1, (pB R1))] (.int .i64 (-1)) ((by have h := side_ok R3 R1 zR3 fR3 zR1 fR1 0 (by omega); rw [Sp.side_at F31.2.1 (by omega)] at h; exact h)) (.cons rS (.cons rF (.cons rS .nil))) ⟨rfl, bP, rfl, bP, trivial⟩ rF) <|
    .a 2 5 <| .nil _ _) ?_
  refine aw_fl 8122351 ?_
  refine aw_sk ?_
  refine block_normal ?_
  refine then_normal ?_
  refine aw_p1 (
    .a 2 5 <| .nil _ _) ?_
  refine then_normal ?_
  refine al_round ?_
  refine aw_p 126911 (
    .a 1 5 <| .nil _ _) ?_
  refine aw_sq 253822 253823 ?_
  refine aw_tr 507644 ?_
  refine aw_sk ?_
  refine then_normal ?_
  refine aw_sq 507646 507647 ?_
  refine aw_bl 3 1015293 ?_
  refine aw_p 2030587 (
    .a 5 5 <| .nil _ _) ?_
  refine aw_p 4061175 (
    .a 6 5 <|
    .p (cS (m := 2) (args0 := [sV 0 R3.length, .int .i64 0, sV 1 R2.length]) (pre0 := [(0, (pB R3)), (1, (pB R2))]) (v0 := .int .i64 (-1)) #[.tmp 32, .const (.int .i64 0), .tmp 33] #[39, 3, 39] [sV 3 R3.length, .int .i64 0, sV 2 R2.length] [3, 2] [(3, (pB R3)), (2, (pB R2))] (.int .i64 (-1)) ((by have h := side_ok R3 R2 zR3 fR3 zR2 fR2 0 (by omega); rw [Sp.side_at F32.2.1 (by omega)] at h; exact h)) (.cons rS (.cons rF (.cons rS .nil))) ⟨rfl, bP, rfl, bP, trivial⟩ rF) <|
    .a 2 5 <| .nil _ _) ?_
  refine aw_fl 8122351 ?_
  refine aw_sk ?_
  refine block_normal ?_
  refine then_normal ?_
  refine aw_p1 (
    .a 2 5 <| .nil _ _) ?_
  refine then_normal ?_
  refine al_round ?_
  refine aw_p 126911 (
    .a 1 5 <| .nil _ _) ?_
  refine aw_sq 253822 253823 ?_
  refine aw_tr 507644 ?_
  refine aw_sk ?_
  refine then_normal ?_
  refine aw_sq 507646 507647 ?_
  refine aw_bl 3 1015293 ?_
  refine aw_p 2030587 (
    .a 5 5 <| .nil _ _) ?_
  refine aw_p 4061175 (
    .a 9 5 <| .nil _ _) ?_
  refine aw_fl 8122351 ?_
  refine aw_sk ?_
  refine block_normal ?_
  refine then_normal ?_
  refine aw_p1 (
    .a 2 5 <| .nil _ _) ?_
  refine then_normal ?_
  refine al_round ?_
  refine aw_p 126911 (
    .a 1 5 <| .nil _ _) ?_
  refine aw_sq 253822 253823 ?_
  refine aw_fl 507645 ?_
  refine aw_ex 2 ?_
  refine then_exit ?_
  refine then_exit ?_
  refine block_exit ?_
  refine block_normal ?_
  refine then_normal ?_
  refine aw_p1 (
    .a 2 5 <| .nil _ _) ?_
  refine then_normal ?_
  refine al_round ?_
  refine aw_p 495 (
    .a 1 5 <| .nil _ _) ?_
  refine aw_sq 990 991 ?_
  refine aw_fl 1981 ?_
  refine aw_ex 0 ?_
  refine then_exit ?_
  refine then_exit ?_
  refine block_exit ?_
  refine then_normal ?_
  refine aw_p 63 (
    .a 2 5 <| .nil _ _) ?_
  refine aw_rt ?_
  exact en_ret [sV 4 3] (by kernel_rfl)
theorem atwice_o2 (R1 R2 R3 : List (Int × Int)) (zR1 : 1 ≤ R1.length ∧ R1.length ≤ 200) (fR1 : Sp.Few 1000 R1) (zR2 : 1 ≤ R2.length ∧ R2.length ≤ 200) (fR2 : Sp.Few 1000 R2) (zR3 : 1 ≤ R3.length ∧ R3.length ≤ 200) (fR3 : Sp.Few 1000 R3) (cR1 : Sp.chkF R1 = 0) (cR2 : Sp.chkF R2 = 0) (cR3 : Sp.chkF R3 = 0) (F21 : Sp.Fit R2 R1 1 (-1)) (F31 : Sp.Fit R3 R1 (-1) 1) (F32 : Sp.Fit R3 R2 (-1) 1) (a1 a2 a3 : Int) (t1 : Sp.twF R1 1 0 = a1) (b1 : -100000 ≤ a1 ∧ a1 ≤ 100000) (t2 : Sp.twF R2 1 0 = a2) (b2 : -100000 ≤ a2 ∧ a2 ≤ 100000) (t3 : Sp.twF R3 1 0 = a3) (b3 : -100000 ≤ a3 ∧ a3 ≤ 100000) :
    AC Tryz.prog 10 4 ([sV 0 3]) [(0, ⟨[sV 1 R1.length, sV 2 R2.length, sV 3 R3.length], 39, true, 1⟩), (1, (pB R1)), (2, (pB R2)), (3, (pB R3))] (.int .i64 (((0 + (0 - (Sp.mx a1 (0 - a1)))) + (Sp.mx a2 (0 - a2))) + (Sp.mx a3 (0 - a3)))) [(0, ⟨[sV 1 R1.length, sV 2 R2.length, sV 3 R3.length], 39, true, 1⟩), (1, (pB R1)), (2, (pB R2)), (3, (pB R3))] := by
  have m1 : 0 ≤ Sp.mx a1 (0 - a1) ∧ Sp.mx a1 (0 - a1) ≤ 100000 := (by unfold Sp.mx; split <;> omega); have m2 : 0 ≤ Sp.mx a2 (0 - a2) ∧ Sp.mx a2 (0 - a2) ≤ 100000 := (by unfold Sp.mx; split <;> omega); have m3 : 0 ≤ Sp.mx a3 (0 - a3) ∧ Sp.mx a3 (0 - a3) ≤ 100000 := (by unfold Sp.mx; split <;> omega)
  refine ac_in Tryz.func10 (fun w0 W pin => ?_)
  refine aw_p 3 (
    .a 1 4 <| .nil _ _) ?_
  refine aw_p 7 (
    .a 1 4 <| .nil _ _) ?_
  refine aw_sq 14 15 ?_
  refine aw_p 29 (
    .a 1 4 <|
    .p (cF #[.tmp 7] #[25] [sV 0 3] 1 [0, 1, 2, 3, 4] [(0, ⟨[sV 1 R1.length, sV 2 R2.length, sV 3 R3.length], 39, true, 1⟩), (1, (pB R1)), (2, (pB R2)), (3, (pB R3))] [(0, ⟨[sV 1 R1.length, sV 2 R2.length, sV 3 R3.length], 39, true, 1⟩), (1, (pB R1)), (2, (pB R2)), (3, (pB R3)), (4, ⟨[.int .i64 1, .int .i64 2, .int .i64 0], 3, true, 1⟩)] (sV 4 3) (adepth_o2 R1 R2 R3 zR1 fR1 zR2 fR2 zR3 fR3 cR1 cR2 cR3 F21 F31 F32) (.cons rS .nil) ⟨rfl, ⟨rfl, rfl, rfl, (.cons rS (.cons rS (.cons rS .nil)))⟩, rfl, bP, rfl, bP, rfl, bP, trivial⟩ ⟨rfl, ⟨rfl, rfl, rfl, (.cons rS (.cons rS (.cons rS .nil)))⟩, rfl, bP, rfl, bP, rfl, bP, rfl, ⟨rfl, rfl, rfl, (.flats (by kernel_rfl))⟩, trivial⟩ rS) <|
    .a 2 5 <| .nil _ _) ?_
  refine aw_bl 0 59 ?_
  refine aw_lp 119 ?_
  refine al_round ?_
  refine aw_p 239 (
    .a 1 5 <| .nil _ _) ?_
  refine aw_sq 478 479 ?_
  refine aw_tr 956 ?_
  refine aw_sk ?_
  refine then_normal ?_
  refine aw_sq 958 959 ?_
  refine aw_bl 1 1917 ?_
  refine aw_p 3835 (
    .a 5 5 <| .nil _ _) ?_
  refine aw_p 7671 (
    .a 4 5 <| .p (cS (m := 1) (args0 := [sV 0 R1.length]) (pre0 := [(0, (pB R1))]) (v0 := .int .i64 a1) #[.tmp 18] #[39] [sV 1 R1.length] [1] [(1, (pB R1))] (.int .i64 a1) ((by have h := twicen_own R1 R1.length rfl (by omega); rw [t1] at h; exact h)) (.cons rS .nil) ⟨rfl, bP, trivial⟩ rF) <| .a 1 5 <| .nil _ _) ?_
  refine aw_p 15343 (
    .a 2 5 <| .p (does_i (0 - a1) (wrap_i64 (by omega) (by omega)) .i64) <| .a 2 5 <| .nil _ _) ?_
  refine aw_sq 30686 30687 ?_
  refine aw_p 61373 (
    .a 3 5 <| .nil _ _) ?_
  refine aw_tr 122746 ?_
  refine aw_p1 (
    .a 1 5 <| .p (does_i (0 - (Sp.mx a1 (0 - a1))) (wrap_i64 (by omega) (by omega)) .i64) <| .a 1 5 <| .nil _ _) ?_
  refine then_normal ?_
  refine aw_p1 (
    .a 2 5 <| .p (does_i (0 + (0 - (Sp.mx a1 (0 - a1)))) (wrap_i64 (by omega) (by omega)) .i64) <| .a 1 5 <| .nil _ _) ?_
  refine block_normal ?_
  refine then_normal ?_
  refine aw_p1 (
    .a 2 5 <| .nil _ _) ?_
  refine then_normal ?_
  refine al_round ?_
  refine aw_p 239 (
    .a 1 5 <| .nil _ _) ?_
  refine aw_sq 478 479 ?_
  refine aw_tr 956 ?_
  refine aw_sk ?_
  refine then_normal ?_
  refine aw_sq 958 959 ?_
  refine aw_bl 1 1917 ?_
  refine aw_p 3835 (
    .a 5 5 <| .nil _ _) ?_
  refine aw_p 7671 (
    .a 4 5 <| .p (cS (m := 1) (args0 := [sV 0 R2.length]) (pre0 := [(0, (pB R2))]) (v0 := .int .i64 a2) #[.tmp 18] #[39] [sV 2 R2.length] [2] [(2, (pB R2))] (.int .i64 a2) ((by have h := twicen_own R2 R2.length rfl (by omega); rw [t2] at h; exact h)) (.cons rS .nil) ⟨rfl, bP, trivial⟩ rF) <| .a 1 5 <| .nil _ _) ?_
  refine aw_p 15343 (
    .a 2 5 <| .p (does_i (0 - a2) (wrap_i64 (by omega) (by omega)) .i64) <| .a 2 5 <| .nil _ _) ?_
  refine aw_sq 30686 30687 ?_
  refine aw_p 61373 (
    .a 3 5 <| .nil _ _) ?_
  refine aw_fl 122747 ?_
  refine aw_sk ?_
  refine then_normal ?_
  refine aw_p1 (
    .a 2 5 <| .p (does_i ((0 + (0 - (Sp.mx a1 (0 - a1)))) + (Sp.mx a2 (0 - a2))) (wrap_i64 (by omega) (by omega)) .i64) <| .a 1 5 <| .nil _ _) ?_
  refine block_normal ?_
  refine then_normal ?_
  refine aw_p1 (
    .a 2 5 <| .nil _ _) ?_
  refine then_normal ?_
  refine al_round ?_
  refine aw_p 239 (
    .a 1 5 <| .nil _ _) ?_
  refine aw_sq 478 479 ?_
  refine aw_tr 956 ?_
  refine aw_sk ?_
  refine then_normal ?_
  refine aw_sq 958 959 ?_
  refine aw_bl 1 1917 ?_
  refine aw_p 3835 (
    .a 5 5 <| .nil _ _) ?_
  refine aw_p 7671 (
    .a 4 5 <| .p (cS (m := 1) (args0 := [sV 0 R3.length]) (pre0 := [(0, (pB R3))]) (v0 := .int .i64 a3) #[.tmp 18] #[39] [sV 3 R3.length] [3] [(3, (pB R3))] (.int .i64 a3) ((by have h := twicen_own R3 R3.length rfl (by omega); rw [t3] at h; exact h)) (.cons rS .nil) ⟨rfl, bP, trivial⟩ rF) <| .a 1 5 <| .nil _ _) ?_
  refine aw_p 15343 (
    .a 2 5 <| .p (does_i (0 - a3) (wrap_i64 (by omega) (by omega)) .i64) <| .a 2 5 <| .nil _ _) ?_
  refine aw_sq 30686 30687 ?_
  refine aw_p 61373 (
    .a 3 5 <| .nil _ _) ?_
  refine aw_fl 122747 ?_
  refine aw_sk ?_
  refine then_normal ?_
  refine aw_p1 (
    .a 2 5 <| .p (does_i (((0 + (0 - (Sp.mx a1 (0 - a1)))) + (Sp.mx a2 (0 - a2))) + (Sp.mx a3 (0 - a3))) (wrap_i64 (by omega) (by omega)) .i64) <| .a 1 5 <| .nil _ _) ?_
  refine block_normal ?_
  refine then_normal ?_
  refine aw_p1 (
    .a 2 5 <| .nil _ _) ?_
  refine then_normal ?_
  refine al_round ?_
  refine aw_p 239 (
    .a 1 5 <| .nil _ _) ?_
  refine aw_sq 478 479 ?_
  refine aw_fl 957 ?_
  refine aw_ex 0 ?_
  refine then_exit ?_
  refine then_exit ?_
  refine block_exit ?_
  refine then_normal ?_
  refine aw_p 31 (
    .a 2 5 <| .nil _ _) ?_
  refine aw_rt ?_
  exact en_ret [.int .i64 (((0 + (0 - (Sp.mx a1 (0 - a1)))) + (Sp.mx a2 (0 - a2))) + (Sp.mx a3 (0 - a3)))] (by kernel_rfl)
end Go.Proofs.YtndkhgfecnbmnaaGreat.Am

namespace Go.Proofs.YtndkhgfecnbmnaaGreat.Am
open Go Go.Proofs
set_option maxRecDepth 100000
set_option maxHeartbeats 4000000
set_option linter.unusedVariables false
set_option linter.unusedSimpArgs false
theorem areasSame_1 (xs : List Int) (R1 R2 R3 : List (Int × Int)) (zR1 : 1 ≤ R1.length ∧ R1.length ≤ 200) (fR1 : Sp.Few 1000 R1) (zR2 : 1 ≤ R2.length ∧ R2.length ≤ 200) (fR2 : Sp.Few 1000 R2) (zR3 : 1 ≤ R3.length ∧ R3.length ≤ 200) (fR3 : Sp.Few 1000 R3) (cR1 : Sp.chkF R1 = 0) (cR2 : Sp.chkF R2 = 0) (cR3 : Sp.chkF R3 = 0) (F21 : Sp.Fit R2 R1 1 (-1)) (F31 : Sp.Fit R3 R1 (-1) 1) (F32 : Sp.Fit R3 R2 (-1) 1) (hm : AC Tryz.prog 5 1 [.slice (some ⟨0, 0, none⟩) xs.length 0] [(0, ⟨(xs.map i64v), 3, false, 1⟩)] (.slice (some ⟨1, 0, none⟩) 2 0) [(1, ⟨[sV 2 R1.length, sV 3 R2.length], 39, true, 1⟩), (2, (pB R1)), (3, (pB R2))]) (hn : AC Tryz.prog 7 3 [.slice (some ⟨0, 0, none⟩) 2 0] [(0, ⟨[sV 1 R1.length, sV 2 R2.length], 39, true, 1⟩), (1, (pB R1)), (2, (pB R2))] (.slice (some ⟨3, 0, none⟩) 2 0) [(0, ⟨[sV 1 R1.length, sV 2 R2.length], 39, true, 1⟩), (1, (pB R1)), (2, (pB R2)), (3, ⟨[sV 4 R1.length, sV 5 R2.length], 39, true, 1⟩), (4, (pB R1)), (5, (pB R2))]) (x px py : Int) (hx : AC Tryz.prog 6 0 [.int .i64 x] [] (.agg #[.int .i64 px, .int .i64 py]) []) (bpx : -40 ≤ px) (cpx : px ≤ 40) (bpy : -40 ≤ py) (cpy : py ≤ 40) (lx ly ux uy : Int) (l0 : -900 ≤ lx ∧ lx ≤ 900) (l1 : -900 ≤ ly ∧ ly ≤ 900) (l2 : -900 ≤ ux ∧ ux ≤ 900) (l3 : -900 ≤ uy ∧ uy ≤ 900) (hb : Sp.bxr (R1 ++ R2) (R1 ++ R2).length = (lx, ly, ux, uy)) (hA : Sp.rct (lx - 2) (ly - 2) (ux + 2) (uy + 2) = R3) (a1 a2 a3 : Int) (t1 : Sp.twF R1 1 0 = a1) (b1 : -100000 ≤ a1 ∧ a1 ≤ 100000) (t2 : Sp.twF R2 1 0 = a2) (b2 : -100000 ≤ a2 ∧ a2 ≤ 100000) (t3 : Sp.twF R3 1 0 = a3) (b3 : -100000 ≤ a3 ∧ a3 ≤ 100000) (ap : 0 ≤ a3) (hq : Sp.hasF R3 (Sp.lim 1048576 px) (Sp.lim 1048576 py) 0 (-1) = 1 ∨ ∀ z ∈ [Sp.hasF R1 (Sp.lim 1048576 px) (Sp.lim 1048576 py) 0 (-1), Sp.hasF R2 (Sp.lim 1048576 px) (Sp.lim 1048576 py) 0 (-1)], z = -1) :
    AC Tryz.prog 3 1 ([sV 0 xs.length, .int .i64 x]) [(0, ⟨(xs.map i64v), 3, false, 1⟩)] (.bool true) [] := by
  have m1 : 0 ≤ Sp.mx a1 (0 - a1) ∧ Sp.mx a1 (0 - a1) ≤ 100000 := (by unfold Sp.mx; split <;> omega); have m2 : 0 ≤ Sp.mx a2 (0 - a2) ∧ Sp.mx a2 (0 - a2) ≤ 100000 := (by unfold Sp.mx; split <;> omega); have m3 : 0 ≤ Sp.mx a3 (0 - a3) ∧ Sp.mx a3 (0 - a3) ≤ 100000 := (by unfold Sp.mx; split <;> omega); have q0 := Sp.ahF_bd [Sp.hasF R1 (Sp.lim 1048576 px) (Sp.lim 1048576 py) 0 (-1), Sp.hasF R2 (Sp.lim 1048576 px) (Sp.lim 1048576 py) 0 (-1)]; have q1 := Sp.ahF_bd [Sp.hasF R1 (Sp.lim 1048576 px) (Sp.lim 1048576 py) 0 (-1), Sp.hasF R2 (Sp.lim 1048576 px) (Sp.lim 1048576 py) 0 (-1), Sp.hasF R3 (Sp.lim 1048576 px) (Sp.lim 1048576 py) 0 (-1)]
  refine ac_in Tryz.func3 (fun w0 W pin => ?_)
  refine aw_p 3 (
    .a 1 1 <| .nil _ _) ?_
  refine aw_sq 6 7 ?_
  refine aw_p 13 (
    .p (does_c (h6begun_ok)) <| .a 1 1 <| .nil _ _) ?_
  refine aw_fl 27 ?_
  refine aw_sk ?_
  refine then_normal ?_
  refine aw_p 15 (
    .a 1 1 <|
    .p (cF #[.tmp 16] #[22] [sV 0 xs.length] 3 [0, 1, 2, 3] [(0, ⟨(xs.map i64v), 3, false, 1⟩)] [(1, ⟨[sV 2 R1.length, sV 3 R2.length], 39, true, 1⟩), (2, (pB R1)), (3, (pB R2))] (sV 1 2) (hm) (.cons rS .nil) ⟨rfl, ⟨rfl, rfl, rfl, (.flats (flats_map (fun _ => rfl) _))⟩, trivial⟩ ⟨rfl, ⟨rfl, rfl, rfl, (.cons rS (.cons rS .nil))⟩, rfl, bP, rfl, bP, trivial⟩ rS) <|
    .a 1 4 <| .p (does_c (hx)) <| .a 3 4 <| .nil _ _) ?_
  refine aw_p 31 (
    .a 1 5 <|
    .p (cF #[.tmp 20] #[25] [sV 1 2] 3 [1, 2, 3, 5, 6, 7] [(1, ⟨[sV 2 R1.length, sV 3 R2.length], 39, true, 1⟩), (2, (pB R1)), (3, (pB R2))] [(1, ⟨[sV 2 R1.length, sV 3 R2.length], 39, true, 1⟩), (2, (pB R1)), (3, (pB R2)), (5, ⟨[sV 6 R1.length, sV 7 R2.length], 39, true, 1⟩), (6, (pB R1)), (7, (pB R2))] (sV 5 2) (hn) (.cons rS .nil) ⟨rfl, ⟨rfl, rfl, rfl, (.cons rS (.cons rS .nil))⟩, rfl, bP, rfl, bP, trivial⟩ ⟨rfl, ⟨rfl, rfl, rfl, (.cons rS (.cons rS .nil))⟩, rfl, bP, rfl, bP, rfl, ⟨rfl, rfl, rfl, (.cons rS (.cons rS .nil))⟩, rfl, bP, rfl, bP, trivial⟩ rS) <|
    .a 1 8 <| .nil _ _) ?_
  refine aw_sq 62 63 ?_
  refine aw_d 125 (
    .a 1 8 <| .p (cS #[.tmp 22] #[25] [sV 1 2] [1, 2, 3] [(1, ⟨[sV 2 R1.length, sV 3 R2.length], 39, true, 1⟩), (2, (pB R1)), (3, (pB R2))] (.int .i64 0) (acheck_n2 R1 R2 zR1 fR1 zR2 fR2 cR1 cR2 F21) (.cons rS .nil) ⟨rfl, ⟨rfl, rfl, rfl, (.cons rS (.cons rS .nil))⟩, rfl, bP, rfl, bP, trivial⟩ rF) <|
    .a 11 8 <|
    .p (cS #[.tmp 33, .tmp 34] #[25, 28] [sV 5 2, .agg #[.int .i64 px, .int .i64 py]] [5, 6, 7] [(5, ⟨[sV 6 R1.length, sV 7 R2.length], 39, true, 1⟩), (6, (pB R1)), (7, (pB R2))] (.int .i64 (Sp.ahF [Sp.hasF R1 (Sp.lim 1048576 px) (Sp.lim 1048576 py) 0 (-1), Sp.hasF R2 (Sp.lim 1048576 px) (Sp.lim 1048576 py) 0 (-1)] (-1))) (ahas_2 R1 R2 zR1 fR1 zR2 fR2 px py) (.cons rS (.cons rF .nil)) ⟨rfl, ⟨rfl, rfl, rfl, (.cons rS (.cons rS .nil))⟩, rfl, bP, rfl, bP, trivial⟩ rF) <|
    .a 2 8 <|
    .p (cS #[.tmp 36, .tmp 37] #[25, 28] [sV 1 2, .agg #[.int .i64 px, .int .i64 py]] [1, 2, 3] [(1, ⟨[sV 2 R1.length, sV 3 R2.length], 39, true, 1⟩), (2, (pB R1)), (3, (pB R2))] (.int .i64 (Sp.ahF [Sp.hasF R1 (Sp.lim 1048576 px) (Sp.lim 1048576 py) 0 (-1), Sp.hasF R2 (Sp.lim 1048576 px) (Sp.lim 1048576 py) 0 (-1)] (-1))) (ahas_2 R1 R2 zR1 fR1 zR2 fR2 px py) (.cons rS (.cons rF .nil)) ⟨rfl, ⟨rfl, rfl, rfl, (.cons rS (.cons rS .nil))⟩, rfl, bP, rfl, bP, trivial⟩ rF) <|
    .p (does_b false ((show ((Sp.ahF [Sp.hasF R1 (Sp.lim 1048576 px) (Sp.lim 1048576 py) 0 (-1), Sp.hasF R2 (Sp.lim 1048576 px) (Sp.lim 1048576 py) 0 (-1)] (-1)) != (Sp.ahF [Sp.hasF R1 (Sp.lim 1048576 px) (Sp.lim 1048576 py) 0 (-1), Sp.hasF R2 (Sp.lim 1048576 px) (Sp.lim 1048576 py) 0 (-1)] (-1))) = false from by simp))) <|
    .a 3 8 <|
    .p (cS #[.tmp 42] #[25] [sV 5 2] [5, 6, 7] [(5, ⟨[sV 6 R1.length, sV 7 R2.length], 39, true, 1⟩), (6, (pB R1)), (7, (pB R2))] (.int .i64 ((0 + (Sp.mx a1 (0 - a1))) + (0 - (Sp.mx a2 (0 - a2))))) (atwice_n2 R1 R2 zR1 fR1 zR2 fR2 cR1 cR2 F21 a1 a2 t1 b1 t2 b2) (.cons rS .nil) ⟨rfl, ⟨rfl, rfl, rfl, (.cons rS (.cons rS .nil))⟩, rfl, bP, rfl, bP, trivial⟩ rF) <|
    .a 1 8 <|
    .p (cS #[.tmp 44] #[25] [sV 1 2] [1, 2, 3] [(1, ⟨[sV 2 R1.length, sV 3 R2.length], 39, true, 1⟩), (2, (pB R1)), (3, (pB R2))] (.int .i64 ((0 + (Sp.mx a1 (0 - a1))) + (0 - (Sp.mx a2 (0 - a2))))) (atwice_n2 R1 R2 zR1 fR1 zR2 fR2 cR1 cR2 F21 a1 a2 t1 b1 t2 b2) (.cons rS .nil) ⟨rfl, ⟨rfl, rfl, rfl, (.cons rS (.cons rS .nil))⟩, rfl, bP, rfl, bP, trivial⟩ rF) <|
    .p (does_b false ((show (((0 + (Sp.mx a1 (0 - a1))) + (0 - (Sp.mx a2 (0 - a2)))) != ((0 + (Sp.mx a1 (0 - a1))) + (0 - (Sp.mx a2 (0 - a2))))) = false from by simp))) <| .a 1 8 <| .nil _ _) ?_
  refine aw_fl 251 ?_
  refine aw_sk ?_
  refine then_normal ?_
  refine aw_p 127 (
    .a 1 8 <|
    .p (cS (m := 3) (args0 := [sV 0 2]) (pre0 := [(0, ⟨[sV 1 R1.length, sV 2 R2.length], 39, true, 1⟩), (1, (pB R1)), (2, (pB R2))]) (v0 := .agg #[.int .i64 lx, .int .i64 ly, .int .i64 ux, .int .i64 uy]) #[.tmp 48] #[25] [sV 1 2] [1, 2, 3] [(1, ⟨[sV 2 R1.length, sV 3 R2.length], 39, true, 1⟩), (2, (pB R1)), (3, (pB R2))] (.agg #[.int .i64 lx, .int .i64 ly, .int .i64 ux, .int .i64 uy]) ((by have h := abox_2 R1 R2 zR1 fR1 zR2 fR2; rw [hb] at h; exact h)) (.cons rS .nil) ⟨rfl, ⟨rfl, rfl, rfl, (.cons rS (.cons rS .nil))⟩, rfl, bP, rfl, bP, trivial⟩ rF) <|
    .a 2 8 <| .nil _ _) ?_
  refine aw_p 255 (
    .a 1 9 <| .p (does_c (grow_in lx ly ux uy 2 (by omega) (by omega) (by omega) (by omega) (by omega) (by omega) (by omega) (by omega) (by omega) (by omega))) <| .a 2 9 <| .nil _ _) ?_
  refine aw_p 511 (
    .a 20 10 <| .nil _ _) ?_
  refine aw_w [(0, sV 0 xs.length), (1, .int .i64 x), (4, .bool false), (5, sV 1 2), (6, .pointer (some ⟨4, 0, none⟩)), (7, sV 5 2), (8, .pointer (some ⟨8, 0, none⟩)), (9, .pointer (some ⟨9, 0, none⟩)), (10, sV 10 R3.length), (14, .bool true), (15, .bool false), (16, sV 0 xs.length), (17, sV 1 2), (18, .int .i64 x), (19, .agg #[.int .i64 px, .int .i64 py]), (20, sV 1 2), (21, sV 5 2), (22, sV 1 2), (23, .int .i64 0), (24, .bool false), (25, .bool false), (26, sV 5 2), (27, .int .i64 2), (28, sV 1 2), (29, .int .i64 2), (30, .bool false), (31, .bool false), (32, .bool false), (33, sV 5 2), (34, .agg #[.int .i64 px, .int .i64 py]), (35, .int .i64 (Sp.ahF [Sp.hasF R1 (Sp.lim 1048576 px) (Sp.lim 1048576 py) 0 (-1), Sp.hasF R2 (Sp.lim 1048576 px) (Sp.lim 1048576 py) 0 (-1)] (-1))), (36, sV 1 2), (37, .agg #[.int .i64 px, .int .i64 py]), (38, .int .i64 (Sp.ahF [Sp.hasF R1 (Sp.lim 1048576 px) (Sp.lim 1048576 py) 0 (-1), Sp.hasF R2 (Sp.lim 1048576 px) (Sp.lim 1048576 py) 0 (-1)] (-1))), (39, .bool false), (40, .bool false), (41, .bool false), (42, sV 5 2), (43, .int .i64 ((0 + (Sp.mx a1 (0 - a1))) + (0 - (Sp.mx a2 (0 - a2))))), (44, sV 1 2), (45, .int .i64 ((0 + (Sp.mx a1 (0 - a1))) + (0 - (Sp.mx a2 (0 - a2))))), (46, .bool false), (47, .bool false), (48, sV 1 2), (49, .agg #[.int .i64 lx, .int .i64 ly, .int .i64 ux, .int .i64 uy]), (50, .agg #[.int .i64 lx, .int .i64 ly, .int .i64 ux, .int .i64 uy]), (51, .agg #[.int .i64 (lx - 2), .int .i64 (ly - 2), .int .i64 (ux + 2), .int .i64 (uy + 2)]), (52, .pointer (some ⟨9, 0, none⟩)), (53, .agg #[.int .i64 (lx - 2), .int .i64 (ly - 2)]), (54, .pointer (some ⟨9, 2, none⟩)), (55, .pointer (some ⟨9, 2, none⟩)), (56, .int .i64 (ux + 2)), (57, .pointer (some ⟨9, 0, none⟩)), (58, .pointer (some ⟨9, 1, none⟩)), (59, .int .i64 (ly - 2)), (60, .agg #[.int .i64 (ux + 2), .int .i64 (ly - 2)]), (61, .pointer (some ⟨9, 2, none⟩)), (62, .agg #[.int .i64 (ux + 2), .int .i64 (uy + 2)]), (63, .pointer (some ⟨9, 0, none⟩)), (64, .pointer (some ⟨9, 0, none⟩)), (65, .int .i64 (lx - 2)), (66, .pointer (some ⟨9, 2, none⟩)), (67, .pointer (some ⟨9, 3, none⟩)), (68, .int .i64 (uy + 2)), (69, .agg #[.int .i64 (lx - 2), .int .i64 (uy + 2)]), (70, sV 10 R3.length)] [(0, ⟨(xs.map i64v), 3, false, 1⟩), (1, ⟨[sV 2 R1.length, sV 3 R2.length], 39, true, 1⟩), (2, (pB R1)), (3, (pB R2)), (4, ⟨[.int .i64 px, .int .i64 py], 28, true, 2⟩), (5, ⟨[sV 6 R1.length, sV 7 R2.length], 39, true, 1⟩), (6, (pB R1)), (7, (pB R2)), (8, ⟨[.int .i64 lx, .int .i64 ly, .int .i64 ux, .int .i64 uy], 36, true, 4⟩), (9, ⟨[.int .i64 (lx - 2), .int .i64 (ly - 2), .int .i64 (ux + 2), .int .i64 (uy + 2)], 36, true, 4⟩), (10, (pB R3))] ?_ (by rw [← hA]; kernel_rfl) (by rw [← hA]; kernel_rfl) (hc := (by simp [closedB, valsB, valB, List.all_eq_true, List.mem_flatMap, List.mem_range, List.mem_map, i64v, ptc, flat1]; try (intros; simp [valsB, valB, flat1]); try decide))
  refine aw_p 1023 (
    .a 1 11 <|
    .p (cF #[.tmp 71] #[25] [sV 1 2] 1 [1, 2, 3, 11] [(1, ⟨[sV 2 R1.length, sV 3 R2.length], 39, true, 1⟩), (2, (pB R1)), (3, (pB R2))] [(1, ⟨[sV 2 R1.length, sV 3 R2.length], 39, true, 1⟩), (2, (pB R1)), (3, (pB R2)), (11, ⟨[sV 2 R1.length, sV 3 R2.length], 39, true, 1⟩)] (sV 11 2) (aclone_2 R1 R2 zR1 fR1 zR2 fR2) (.cons rS .nil) ⟨rfl, ⟨rfl, rfl, rfl, (.cons rS (.cons rS .nil))⟩, rfl, bP, rfl, bP, trivial⟩ ⟨rfl, ⟨rfl, rfl, rfl, (.cons rS (.cons rS .nil))⟩, rfl, bP, rfl, bP, rfl, ⟨rfl, rfl, rfl, (.cons rS (.cons rS .nil))⟩, trivial⟩ rS) <|
    .a 2 12 <| .p (does_ap 13) <| .a 1 14 <| .nil _ _) ?_
  refine aw_sq 2046 2047 ?_
  refine aw_p 4093 (
    .a 1 14 <|
    .p (cS #[.tmp 76] #[25] [sV 13 3] [13, 2, 3, 10] [(13, ⟨[sV 2 R1.length, sV 3 R2.length, sV 10 R3.length], 39, true, 1⟩), (2, (pB R1)), (3, (pB R2)), (10, (pB R3))] (.int .i64 0) (acheck_o2 R1 R2 R3 zR1 fR1 zR2 fR2 zR3 fR3 cR1 cR2 cR3 F21 F31 F32) (.cons rS .nil) ⟨rfl, ⟨rfl, rfl, rfl, (.cons rS (.cons rS (.cons rS .nil)))⟩, rfl, bP, rfl, bP, rfl, bP, trivial⟩ rF) <|
    .a 3 14 <|
    .p (cS #[.tmp 80] #[25] [sV 13 3] [13, 2, 3, 10] [(13, ⟨[sV 2 R1.length, sV 3 R2.length, sV 10 R3.length], 39, true, 1⟩), (2, (pB R1)), (3, (pB R2)), (10, (pB R3))] (.int .i64 (((0 + (0 - (Sp.mx a1 (0 - a1)))) + (Sp.mx a2 (0 - a2))) + (Sp.mx a3 (0 - a3)))) (atwice_o2 R1 R2 R3 zR1 fR1 zR2 fR2 zR3 fR3 cR1 cR2 cR3 F21 F31 F32 a1 a2 a3 t1 b1 t2 b2 t3 b3) (.cons rS .nil) ⟨rfl, ⟨rfl, rfl, rfl, (.cons rS (.cons rS (.cons rS .nil)))⟩, rfl, bP, rfl, bP, rfl, bP, trivial⟩ rF) <|
    .a 1 14 <| .p (cS (m := 1) (args0 := [sV 0 R3.length]) (pre0 := [(0, (pB R3))]) (v0 := .int .i64 a3) #[.tmp 82] #[39] [sV 10 R3.length] [10] [(10, (pB R3))] (.int .i64 a3) ((by have h := twicen_own R3 R3.length rfl (by omega); rw [t3] at h; exact h)) (.cons rS .nil) ⟨rfl, bP, trivial⟩ rF) <|
    .a 1 14 <|
    .p (cS #[.tmp 84] #[25] [sV 1 2] [1, 2, 3] [(1, ⟨[sV 2 R1.length, sV 3 R2.length], 39, true, 1⟩), (2, (pB R1)), (3, (pB R2))] (.int .i64 ((0 + (Sp.mx a1 (0 - a1))) + (0 - (Sp.mx a2 (0 - a2))))) (atwice_n2 R1 R2 zR1 fR1 zR2 fR2 cR1 cR2 F21 a1 a2 t1 b1 t2 b2) (.cons rS .nil) ⟨rfl, ⟨rfl, rfl, rfl, (.cons rS (.cons rS .nil))⟩, rfl, bP, rfl, bP, trivial⟩ rF) <|
    .p (does_i (a3 - ((0 + (Sp.mx a1 (0 - a1))) + (0 - (Sp.mx a2 (0 - a2))))) (wrap_i64 (by omega) (by omega)) .i64) <|
    .p (does_b false ((show ((((0 + (0 - (Sp.mx a1 (0 - a1)))) + (Sp.mx a2 (0 - a2))) + (Sp.mx a3 (0 - a3))) != (a3 - ((0 + (Sp.mx a1 (0 - a1))) + (0 - (Sp.mx a2 (0 - a2)))))) = false from (by rw [bne_eq_false_iff_eq, show Sp.mx a3 (0 - a3) = a3 by unfold Sp.mx; split <;> omega]; omega)))) <| .a 1 14 <| .nil _ _) ?_
  refine aw_fl 8187 ?_
  refine aw_sk ?_
  refine then_normal ?_
  refine aw_d 4095 (
    .a 2 14 <|
    .p (cS #[.tmp 89, .tmp 90] #[25, 28] [sV 1 2, .agg #[.int .i64 px, .int .i64 py]] [1, 2, 3] [(1, ⟨[sV 2 R1.length, sV 3 R2.length], 39, true, 1⟩), (2, (pB R1)), (3, (pB R2))] (.int .i64 (Sp.ahF [Sp.hasF R1 (Sp.lim 1048576 px) (Sp.lim 1048576 py) 0 (-1), Sp.hasF R2 (Sp.lim 1048576 px) (Sp.lim 1048576 py) 0 (-1)] (-1))) (ahas_2 R1 R2 zR1 fR1 zR2 fR2 px py) (.cons rS (.cons rF .nil)) ⟨rfl, ⟨rfl, rfl, rfl, (.cons rS (.cons rS .nil))⟩, rfl, bP, rfl, bP, trivial⟩ rF) <|
    .a 2 14 <|
    .p (cS #[.tmp 92, .tmp 93] #[25, 28] [sV 13 3, .agg #[.int .i64 px, .int .i64 py]] [13, 2, 3, 10] [(13, ⟨[sV 2 R1.length, sV 3 R2.length, sV 10 R3.length], 39, true, 1⟩), (2, (pB R1)), (3, (pB R2)), (10, (pB R3))] (.int .i64 (Sp.ahF [Sp.hasF R1 (Sp.lim 1048576 px) (Sp.lim 1048576 py) 0 (-1), Sp.hasF R2 (Sp.lim 1048576 px) (Sp.lim 1048576 py) 0 (-1), Sp.hasF R3 (Sp.lim 1048576 px) (Sp.lim 1048576 py) 0 (-1)] (-1))) (ahas_3 R1 R2 R3 zR1 fR1 zR2 fR2 zR3 fR3 px py) (.cons rS (.cons rF .nil)) ⟨rfl, ⟨rfl, rfl, rfl, (.cons rS (.cons rS (.cons rS .nil)))⟩, rfl, bP, rfl, bP, rfl, bP, trivial⟩ rF) <|
    .a 2 14 <| .nil _ _) ?_
  refine aw_sq 8190 8191 ?_
  refine aw_p 16381 (
    .a 2 14 <| .p (cS #[.tmp 95, .tmp 96] #[39, 28] [sV 10 R3.length, .agg #[.int .i64 px, .int .i64 py]] [10] [(10, (pB R3))] (.int .i64 (Sp.hasF R3 (Sp.lim 1048576 px) (Sp.lim 1048576 py) 0 (-1))) (hasn_own R3 R3.length rfl (by omega) px py) (.cons rS (.cons rF .nil)) ⟨rfl, bP, trivial⟩ rF) <|
    .a 1 14 <| .nil _ _) ?_
  refine aw_cd 32762 32763 ((Sp.hasF R3 (Sp.lim 1048576 px) (Sp.lim 1048576 py) 0 (-1)) != 1) (fun h1 => ?_) (fun h1 => ?_)
  · have h1p : (¬ ((Sp.hasF R3 (Sp.lim 1048576 px) (Sp.lim 1048576 py) 0 (-1)) = 1)) := by first | (simpa using h1) | (have h1q := h1; simp at h1q; omega) | (have h1q := bx1 h1; simp at h1q; omega)
    refine aw_p 65525 (
      .a 1 14 <| .p (does_b true ((show ((Sp.ahF [Sp.hasF R1 (Sp.lim 1048576 px) (Sp.lim 1048576 py) 0 (-1), Sp.hasF R2 (Sp.lim 1048576 px) (Sp.lim 1048576 py) 0 (-1)] (-1)) == (-1)) = true from (by have hz := hq.resolve_left (by simpa using h1); rw [beq_iff_eq]; exact Sp.all_out hz)))) <| .a 4 14 <|
      .p (cS #[.tmp 103, .tmp 104] #[39, 28] [sV 10 R3.length, .agg #[.int .i64 px, .int .i64 py]] [10] [(10, (pB R3))] (.int .i64 (Sp.hasF R3 (Sp.lim 1048576 px) (Sp.lim 1048576 py) 0 (-1))) (hasn_own R3 R3.length rfl (by omega) px py) (.cons rS (.cons rF .nil)) ⟨rfl, bP, trivial⟩ rF) <|
      .p (does_b true ((show ((Sp.ahF [Sp.hasF R1 (Sp.lim 1048576 px) (Sp.lim 1048576 py) 0 (-1), Sp.hasF R2 (Sp.lim 1048576 px) (Sp.lim 1048576 py) 0 (-1), Sp.hasF R3 (Sp.lim 1048576 px) (Sp.lim 1048576 py) 0 (-1)] (-1)) == (Sp.hasF R3 (Sp.lim 1048576 px) (Sp.lim 1048576 py) 0 (-1))) = true from (by have hz := hq.resolve_left (by simpa using h1); rw [beq_iff_eq]; exact Sp.ah_out (hs := [Sp.hasF R1 (Sp.lim 1048576 px) (Sp.lim 1048576 py) 0 (-1), Sp.hasF R2 (Sp.lim 1048576 px) (Sp.lim 1048576 py) 0 (-1)]) hz (by rcases Sp.has_cases R3 (Sp.lim 1048576 px) (Sp.lim 1048576 py) with q | q | q <;> first | exact .inl q | exact .inr q | exact absurd q (by simpa using h1)))))) <|
      .a 2 14 <| .nil _ _) ?_
    refine aw_rt ?_
    refine then_ret ?_
    exact en_ret [.bool true] (by kernel_rfl)
  · have h1p : ¬ (¬ ((Sp.hasF R3 (Sp.lim 1048576 px) (Sp.lim 1048576 py) 0 (-1)) = 1)) := by first | (simpa using h1) | (have h1q := h1; simp at h1q; omega) | (have h1q := bx2 h1; simp at h1q; omega)
    refine aw_sk ?_
    refine then_normal ?_
    refine aw_p 16383 (
      .a 2 14 <| .p (does_i (0 - (Sp.ahF [Sp.hasF R1 (Sp.lim 1048576 px) (Sp.lim 1048576 py) 0 (-1), Sp.hasF R2 (Sp.lim 1048576 px) (Sp.lim 1048576 py) 0 (-1)] (-1))) (wrap_i64 (by omega) (by omega)) .i64) <|
      .p (does_b true ((show ((Sp.ahF [Sp.hasF R1 (Sp.lim 1048576 px) (Sp.lim 1048576 py) 0 (-1), Sp.hasF R2 (Sp.lim 1048576 px) (Sp.lim 1048576 py) 0 (-1), Sp.hasF R3 (Sp.lim 1048576 px) (Sp.lim 1048576 py) 0 (-1)] (-1)) == (0 - (Sp.ahF [Sp.hasF R1 (Sp.lim 1048576 px) (Sp.lim 1048576 py) 0 (-1), Sp.hasF R2 (Sp.lim 1048576 px) (Sp.lim 1048576 py) 0 (-1)] (-1)))) = true from (by rw [beq_iff_eq]; exact Sp.ah_last (hs := [Sp.hasF R1 (Sp.lim 1048576 px) (Sp.lim 1048576 py) 0 (-1), Sp.hasF R2 (Sp.lim 1048576 px) (Sp.lim 1048576 py) 0 (-1)]) (by simpa using h1))))) <|
      .a 1 14 <| .nil _ _) ?_
    refine aw_rt ?_
    exact en_ret [.bool true] (by kernel_rfl)
end Go.Proofs.YtndkhgfecnbmnaaGreat.Am
