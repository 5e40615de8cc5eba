import Derived.Test.YtndkhgfecnbmnaaRt
set_option linter.unusedVariables false
set_option linter.unusedSimpArgs false
namespace Go.Proofs.Ytndkhgfecnbmnaa.Am.Sp
open Go
/-! Areas: which side of a ring, corners in common, boxes -/
def sdX0 (ax ay bx b_y x y : Int) : Bool := decide (2 * ay < y) && (decide (y ≤ 2 * b_y) && decide (sideD ax ay bx b_y x y > 0))
def sdX (ax ay bx b_y x y : Int) : Bool := if ay > b_y then sdX0 bx b_y ax ay x y else sdX0 ax ay bx b_y x y
def sdL (qs : List (Int × Int)) (x y : Int) : Nat → Nat → Int → Int
  | 0, _, out => out
  | m + 1, k, out => sdL qs x y m (k + 1) (if sdX (gx qs k) (gy qs k) (gx qs ((k + 1) % qs.length)) (gy qs ((k + 1) % qs.length)) x y = true then 0 - out else out)
def sdF (qs : List (Int × Int)) (x y : Int) : Int := sdL qs x y qs.length 0 (-1)
def sideF (ps : List (Int × Int)) (i : Nat) (qs : List (Int × Int)) : Int := sdF qs (gx ps i + gx ps ((i + 1) % ps.length)) (gy ps i + gy ps ((i + 1) % ps.length))
section
variable {qs : List (Int × Int)} {x y out : Int} {k j : Nat}
theorem sd_cr (hk : k < qs.length) (hj : (k + 1) % qs.length = j) (h : sdX (gx qs k) (gy qs k) (gx qs j) (gy qs j) x y = true) : sdL qs x y (qs.length - (k + 1)) (k + 1) (0 - out) = sdL qs x y (qs.length - k) k out := by
  conv => rhs; rw [show qs.length - k = qs.length - (k + 1) + 1 by omega, sdL, hj, if_pos h]
theorem sd_no (hk : k < qs.length) (hj : (k + 1) % qs.length = j) (h : sdX (gx qs k) (gy qs k) (gx qs j) (gy qs j) x y = false) : sdL qs x y (qs.length - (k + 1)) (k + 1) out = sdL qs x y (qs.length - k) k out := by
  conv => rhs; rw [show qs.length - k = qs.length - (k + 1) + 1 by omega, sdL, hj, if_neg (by rw [h]; decide)]
theorem sd_end (h : ¬ k < qs.length) : sdL qs x y (qs.length - k) k out = out := by rw [show qs.length - k = 0 by omega]; rfl
variable {ax ay bx b_y : Int}
theorem sdX_s (h : decide (ay > b_y) = true) : sdX ax ay bx b_y x y = sdX0 bx b_y ax ay x y := if_pos (of_decide_eq_true h)
theorem sdX_n (h : decide (ay > b_y) = false) : sdX ax ay bx b_y x y = sdX0 ax ay bx b_y x y := if_neg (of_decide_eq_false h)
theorem sdX0_1 (h : decide (2 * ay < y) = false) : sdX0 ax ay bx b_y x y = false := by unfold sdX0; rw [h]; rfl
theorem sdX0_2 (h : decide (2 * ay < y) = true) (h2 : decide (y ≤ 2 * b_y) = false) : sdX0 ax ay bx b_y x y = false := by unfold sdX0; rw [h, h2]; rfl
theorem sdX0_3 (h : decide (2 * ay < y) = true) (h2 : decide (y ≤ 2 * b_y) = true) (h3 : decide (sideD ax ay bx b_y x y > 0) = false) : sdX0 ax ay bx b_y x y = false := by unfold sdX0; rw [h, h2, h3]; rfl
theorem sdX0_4 (h : decide (2 * ay < y) = true) (h2 : decide (y ≤ 2 * b_y) = true) (h3 : decide (sideD ax ay bx b_y x y > 0) = true) : sdX0 ax ay bx b_y x y = true := by unfold sdX0; rw [h, h2, h3]; rfl
end
/-- what two edges have in common is a corner of both -/
def eqQ (ax ay bx b_y : Int) : Bool := (ax == bx) && ((ay == b_y) && true)
def cornX (ax ay bx b_y cx cy dx dy : Int) : Bool :=
  if (meetN (lim 1048576 ax) (lim 1048576 ay) (lim 1048576 bx) (lim 1048576 b_y) (lim 1048576 cx) (lim 1048576 cy) (lim 1048576 dx) (lim 1048576 dy) == 0) = true then true
  else if (meetN (lim 1048576 ax) (lim 1048576 ay) (lim 1048576 bx) (lim 1048576 b_y) (lim 1048576 cx) (lim 1048576 cy) (lim 1048576 dx) (lim 1048576 dy) == 1) = true then
    if eqQ ax ay cx cy = true then true else if eqQ ax ay dx dy = true then true else if eqQ bx b_y cx cy = true then true else eqQ bx b_y dx dy
  else false
def cornE (ps : List (Int × Int)) (i : Nat) (qs : List (Int × Int)) (k : Nat) : Bool :=
  cornX (gx ps i) (gy ps i) (gx ps ((i + 1) % ps.length)) (gy ps ((i + 1) % ps.length)) (gx qs k) (gy qs k) (gx qs ((k + 1) % qs.length)) (gy qs ((k + 1) % qs.length))
def cornAll (ps qs : List (Int × Int)) : Bool := (List.range ps.length).all fun i => (List.range qs.length).all fun k => cornE ps i qs k
def sdAll (ps qs : List (Int × Int)) (v : Int) : Bool := (List.range ps.length).all fun i => sideF ps i qs == v
/-- two rings do not cross: the edges of the first one are on the side v of the second one, those of the second one on the side w of the first one -/
def Fit (ps qs : List (Int × Int)) (v w : Int) : Prop := cornAll ps qs = true ∧ sdAll ps qs v = true ∧ sdAll qs ps w = true
instance (ps qs : List (Int × Int)) (v w : Int) : Decidable (Fit ps qs v w) := by unfold Fit; exact inferInstance
theorem corn_at {ps qs : List (Int × Int)} {i k i2 k2 : Nat} (h : cornAll ps qs = true) (hi : i < ps.length) (hk : k < qs.length) (h1 : (i + 1) % ps.length = i2) (h2 : (k + 1) % qs.length = k2) : cornX (gx ps i) (gy ps i) (gx ps i2) (gy ps i2) (gx qs k) (gy qs k) (gx qs k2) (gy qs k2) = true := by
  subst h1 h2
  exact all_at (f := fun k => cornE ps i qs k) (all_at (f := fun i => (List.range qs.length).all fun k => cornE ps i qs k) h hi) hk
theorem side_at {ps qs : List (Int × Int)} {i : Nat} {v : Int} (h : sdAll ps qs v = true) (hi : i < ps.length) : sideF ps i qs = v := by
  have := all_at (f := fun i => sideF ps i qs == v) h hi
  simpa using this
/-! ### moved -/
theorem sideD_move (dx dy ax ay bx b_y x y : Int) : sideD (ax + dx) (ay + dy) (bx + dx) (b_y + dy) (x + 2 * dx) (y + 2 * dy) = sideD ax ay bx b_y x y := by unfold sideD; grind
theorem sdX_move (dx dy ax ay bx b_y x y : Int) : sdX (ax + dx) (ay + dy) (bx + dx) (b_y + dy) (x + 2 * dx) (y + 2 * dy) = sdX ax ay bx b_y x y := by
  unfold sdX sdX0
  rw [sideD_move, sideD_move, Bool.eq_iff_iff]
  (repeat' split) <;> simp only [Bool.and_eq_true, decide_eq_true_eq] <;> omega
theorem gx_move {ps : List (Int × Int)} {dx dy : Int} {i : Nat} (h : i < ps.length) : gx (ps.map (move2 (dx, dy))) i = gx ps i + dx ∧ gy (ps.map (move2 (dx, dy))) i = gy ps i + dy := by
  unfold gx gy; rw [getD_map h]; exact ⟨rfl, rfl⟩
theorem sdL_move {qs : List (Int × Int)} (dx dy x y : Int) : ∀ (m k : Nat) (out : Int), k + m = qs.length → sdL (qs.map (move2 (dx, dy))) (x + 2 * dx) (y + 2 * dy) m k out = sdL qs x y m k out
  | 0, k, out, _ => rfl
  | m + 1, k, out, h => by
    have hm := Nat.mod_lt (k + 1) (show 0 < qs.length by omega)
    unfold sdL
    rw [List.length_map, (gx_move (dx := dx) (dy := dy) (show k < qs.length by omega)).1, (gx_move (dx := dx) (dy := dy) (show k < qs.length by omega)).2, (gx_move (dx := dx) (dy := dy) hm).1, (gx_move (dx := dx) (dy := dy) hm).2, sdX_move]
    exact sdL_move dx dy x y m (k + 1) _ (by omega)
theorem sideF_move {ps qs : List (Int × Int)} {dx dy : Int} {i : Nat} (hi : i < ps.length) : sideF (ps.map (move2 (dx, dy))) i (qs.map (move2 (dx, dy))) = sideF ps i qs := by
  have hm := Nat.mod_lt (i + 1) (show 0 < ps.length by omega)
  unfold sideF sdF
  rw [List.length_map, List.length_map, (gx_move (dx := dx) (dy := dy) hi).1, (gx_move (dx := dx) (dy := dy) hi).2, (gx_move (dx := dx) (dy := dy) hm).1, (gx_move (dx := dx) (dy := dy) hm).2]
  rw [show gx ps i + dx + (gx ps ((i + 1) % ps.length) + dx) = gx ps i + gx ps ((i + 1) % ps.length) + 2 * dx by omega, show gy ps i + dy + (gy ps ((i + 1) % ps.length) + dy) = gy ps i + gy ps ((i + 1) % ps.length) + 2 * dy by omega]
  exact sdL_move dx dy _ _ qs.length 0 (-1) (by omega)
theorem eqQ_move (dx dy ax ay bx b_y : Int) : eqQ (ax + dx) (ay + dy) (bx + dx) (b_y + dy) = eqQ ax ay bx b_y := by
  unfold eqQ; rw [Bool.eq_iff_iff]; simp only [Bool.and_true, Bool.and_eq_true, beq_iff_eq]; omega
theorem cornE_move {ps qs : List (Int × Int)} {dx dy : Int} {i k : Nat} (hp : Few 200 ps) (hq : Few 200 qs) (hx : -1000 ≤ dx ∧ dx ≤ 1000) (hy : -1000 ≤ dy ∧ dy ≤ 1000) (hi : i < ps.length) (hk : k < qs.length) : cornE (ps.map (move2 (dx, dy))) i (qs.map (move2 (dx, dy))) k = cornE ps i qs k := by
  have hm := Nat.mod_lt (i + 1) (show 0 < ps.length by omega)
  have hn := Nat.mod_lt (k + 1) (show 0 < qs.length by omega)
  have b1 : _ ∧ _ := hp i
  have b2 : _ ∧ _ := hp ((i + 1) % ps.length)
  have b3 : _ ∧ _ := hq k
  have b4 : _ ∧ _ := hq ((k + 1) % qs.length)
  unfold cornE
  rw [List.length_map, List.length_map, (gx_move (dx := dx) (dy := dy) hi).1, (gx_move (dx := dx) (dy := dy) hi).2, (gx_move (dx := dx) (dy := dy) hm).1, (gx_move (dx := dx) (dy := dy) hm).2, (gx_move (dx := dx) (dy := dy) hk).1, (gx_move (dx := dx) (dy := dy) hk).2, (gx_move (dx := dx) (dy := dy) hn).1, (gx_move (dx := dx) (dy := dy) hn).2]
  unfold gx gy
  generalize (ps.getD i (0, 0)).1 = a1 at *
  generalize (ps.getD i (0, 0)).2 = a2 at *
  generalize (ps.getD ((i + 1) % ps.length) (0, 0)).1 = a3 at *
  generalize (ps.getD ((i + 1) % ps.length) (0, 0)).2 = a4 at *
  generalize (qs.getD k (0, 0)).1 = c1 at *
  generalize (qs.getD k (0, 0)).2 = c2 at *
  generalize (qs.getD ((k + 1) % qs.length) (0, 0)).1 = c3 at *
  generalize (qs.getD ((k + 1) % qs.length) (0, 0)).2 = c4 at *
  unfold cornX
  have L : ∀ z : Int, -200 ≤ z ∧ z ≤ 200 → lim 1048576 z = z := fun z hz => lim_id (by omega) (by omega)
  have M : ∀ z d : Int, -200 ≤ z ∧ z ≤ 200 → -1000 ≤ d ∧ d ≤ 1000 → lim 1048576 (z + d) = z + d := fun z d hz hd => lim_id (by omega) (by omega)
  rw [M a1 dx b1.1 hx, M a2 dy b1.2 hy, M a3 dx b2.1 hx, M a4 dy b2.2 hy, M c1 dx b3.1 hx, M c2 dy b3.2 hy, M c3 dx b4.1 hx, M c4 dy b4.2 hy, L a1 b1.1, L a2 b1.2, L a3 b2.1, L a4 b2.2, L c1 b3.1, L c2 b3.2, L c3 b4.1, L c4 b4.2, meetN_move, eqQ_move, eqQ_move, eqQ_move, eqQ_move]
theorem fit_move {ps qs : List (Int × Int)} {dx dy v w : Int} (hp : Few 200 ps) (hq : Few 200 qs) (hx : -1000 ≤ dx ∧ dx ≤ 1000) (hy : -1000 ≤ dy ∧ dy ≤ 1000) (h : Fit ps qs v w) : Fit (ps.map (move2 (dx, dy))) (qs.map (move2 (dx, dy))) v w := by
  obtain ⟨h1, h2, h3⟩ := h
  refine ⟨?_, ?_, ?_⟩
  · unfold cornAll
    simp only [List.all_eq_true, List.mem_range, List.length_map]
    intro i hi k hk
    rw [cornE_move hp hq hx hy hi hk]
    exact all_at (f := fun k => cornE ps i qs k) (all_at (f := fun i => (List.range qs.length).all fun k => cornE ps i qs k) h1 hi) hk
  · unfold sdAll
    simp only [List.all_eq_true, List.mem_range, List.length_map, beq_iff_eq]
    intro i hi
    rw [sideF_move hi]; exact side_at h2 hi
  · unfold sdAll
    simp only [List.all_eq_true, List.mem_range, List.length_map, beq_iff_eq]
    intro i hi
    rw [sideF_move hi]; exact side_at h3 hi
/-! ### the areas that are drawn -/
def sqr (x y r : Int) : List (Int × Int) := [(x - r, y - r), (x + r, y - r), (x + r, y + r), (x - r, y + r)]
def hol (x y r : Int) : List (Int × Int) := [(x - r, y - r), (x - r, y + r), (x + r, y + r), (x + r, y - r)]
theorem sqr_move (x y r dx : Int) : sqr (x + dx) y r = (sqr dx 0 r).map (move2 (x, y)) := by
  simp only [sqr, List.map_cons, List.map_nil, move2, List.cons.injEq, Prod.mk.injEq, and_true]; omega
theorem sqr_at (x y r : Int) : sqr x y r = (sqr 0 0 r).map (move2 (x, y)) := by have := sqr_move x y r 0; rwa [Int.add_zero] at this
theorem hol_at (x y r : Int) : hol x y r = (hol 0 0 r).map (move2 (x, y)) := by
  simp only [hol, List.map_cons, List.map_nil, move2, List.cons.injEq, Prod.mk.injEq, and_true]; omega
theorem few_sqr {x y r m : Int} (hr : 0 ≤ r) (hx : -m ≤ x - r ∧ x + r ≤ m) (hy : -m ≤ y - r ∧ y + r ≤ m) : Few m (sqr x y r) ∧ Few m (hol x y r) :=
  ⟨few_of (by omega) (by simp only [sqr, List.mem_cons, List.not_mem_nil, or_false, forall_eq_or_imp, forall_eq]; omega), few_of (by omega) (by simp only [hol, List.mem_cons, List.not_mem_nil, or_false, forall_eq_or_imp, forall_eq]; omega)⟩
set_option maxRecDepth 100000 in
theorem sq_ring : ((List.range 16).all fun r => r == 0 || (allap (sqr 0 0 r) 4 && allap (hol 0 0 r) 4)) = true := by decide +kernel
set_option maxRecDepth 100000 in
theorem sq_hol : ((List.range 16).all fun r => Nat.blt r 6 || (List.range (r - 2)).all fun k => decide (Fit (hol 0 0 (k + 1 : Nat)) (sqr 0 0 r) 1 (-1))) = true := by decide +kernel
set_option maxRecDepth 100000 in
theorem sq_sq : ((List.range 16).all fun r => Nat.blt r 6 || (List.range (r - 4)).all fun j => decide (Fit (sqr 0 0 (j + 1 : Nat)) (sqr 0 0 r) 1 (-1))) = true := by decide +kernel
set_option maxRecDepth 100000 in
theorem hol_sq : ((List.range 14).all fun k => Nat.blt k 3 || (List.range (k - 2)).all fun j => decide (Fit (sqr 0 0 (j + 1 : Nat)) (hol 0 0 k) 1 (-1))) = true := by decide +kernel
set_option maxRecDepth 100000 in
theorem sq_by : ((List.range 16).all fun r => Nat.blt r 6 || (List.range 3).all fun d => decide (Fit (sqr (r + 3 + d : Nat) 0 2) (sqr 0 0 r) (-1) (-1))) = true := by decide +kernel
end Go.Proofs.Ytndkhgfecnbmnaa.Am.Sp

