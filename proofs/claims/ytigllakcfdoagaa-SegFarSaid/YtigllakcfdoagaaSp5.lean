import Derived.Test.YtigllakcfdoagaaSp4
namespace Go.Proofs.Ytigllakcfdoagaa.Am.Sp
/-! The document's own way along the curve -/
def lc (px py ax ay dx dy : Int) : Int := (px - ax) * dx + (py - ay) * dy
def Axes (dx dy e_x e_y : Int) : Prop := (dx = 0 ∧ e_y = 0 ∧ (dy = 1 ∨ dy = -1) ∧ (e_x = 1 ∨ e_x = -1)) ∨ (dy = 0 ∧ e_x = 0 ∧ (dx = 1 ∨ dx = -1) ∧ (e_y = 1 ∨ e_y = -1))
def inb (px py qx qy dx dy e_x e_y s : Int) : Bool := decide (lc px py qx qy dx dy ≥ 0) && (decide (lc px py qx qy dx dy < s) && (decide (lc px py qx qy e_x e_y ≥ 0) && decide (lc px py qx qy e_x e_y < s)))
theorem inb_iff (px py qx qy dx dy e_x e_y s : Int) : inb px py qx qy dx dy e_x e_y s = true ↔ (0 ≤ lc px py qx qy dx dy ∧ lc px py qx qy dx dy < s) ∧ (0 ≤ lc px py qx qy e_x e_y ∧ lc px py qx qy e_x e_y < s) := by
  unfold inb
  simp only [Bool.and_eq_true, decide_eq_true_eq]
  omega
theorem axes_bd {dx dy e_x e_y : Int} (h : Axes dx dy e_x e_y) : (-1 ≤ dx ∧ dx ≤ 1) ∧ (-1 ≤ dy ∧ dy ≤ 1) ∧ (-1 ≤ e_x ∧ e_x ≤ 1) ∧ (-1 ≤ e_y ∧ e_y ≤ 1) := by unfold Axes at h; omega
theorem axes_swap {dx dy e_x e_y : Int} (h : Axes dx dy e_x e_y) : Axes e_x e_y dx dy := by unfold Axes at h ⊢; omega
theorem axes_neg {dx dy e_x e_y : Int} (h : Axes dx dy e_x e_y) : Axes (0 - e_x) (0 - e_y) (0 - dx) (0 - dy) := by unfold Axes at h ⊢; omega
theorem lc_at {px py ax ay dx dy e_x e_y M B : Int} (h : Axes dx dy e_x e_y) (hu : 0 ≤ lc px py ax ay dx dy ∧ lc px py ax ay dx dy < M) (hv : 0 ≤ lc px py ax ay e_x e_y ∧ lc px py ax ay e_x e_y < M)
    (hx : -B ≤ px ∧ px ≤ B) (hy : -B ≤ py ∧ py ≤ B) : (-(B + M) ≤ ax ∧ ax ≤ B + M) ∧ (-(B + M) ≤ ay ∧ ay ≤ B + M) := by
  unfold lc at hu hv
  rcases h with ⟨rfl, rfl, rfl | rfl, rfl | rfl⟩ | ⟨rfl, rfl, rfl | rfl, rfl | rfl⟩ <;> omega
theorem lc_up {px py ax ay dx dy e_x e_y s : Int} (h : Axes dx dy e_x e_y) : lc px py (ax + dx * s) (ay + dy * s) dx dy = lc px py ax ay dx dy - s ∧ lc px py (ax + dx * s) (ay + dy * s) e_x e_y = lc px py ax ay e_x e_y := by
  unfold lc
  rcases h with ⟨rfl, rfl, rfl | rfl, rfl | rfl⟩ | ⟨rfl, rfl, rfl | rfl, rfl | rfl⟩ <;> constructor <;> grind
theorem lc_over {px py ax ay dx dy e_x e_y s : Int} (h : Axes dx dy e_x e_y) : lc px py (ax + dx * s + e_x * s) (ay + dy * s + e_y * s) dx dy = lc px py ax ay dx dy - s ∧ lc px py (ax + dx * s + e_x * s) (ay + dy * s + e_y * s) e_x e_y = lc px py ax ay e_x e_y - s := by
  unfold lc
  rcases h with ⟨rfl, rfl, rfl | rfl, rfl | rfl⟩ | ⟨rfl, rfl, rfl | rfl, rfl | rfl⟩ <;> constructor <;> grind
theorem lc_last {px py ax ay dx dy e_x e_y s : Int} (h : Axes dx dy e_x e_y) :
    lc px py (ax + e_x * (2 * s - 1) + dx * (s - 1)) (ay + e_y * (2 * s - 1) + dy * (s - 1)) (0 - e_x) (0 - e_y) = 2 * s - 1 - lc px py ax ay e_x e_y ∧ lc px py (ax + e_x * (2 * s - 1) + dx * (s - 1)) (ay + e_y * (2 * s - 1) + dy * (s - 1)) (0 - dx) (0 - dy) = s - 1 - lc px py ax ay dx dy := by
  unfold lc
  rcases h with ⟨rfl, rfl, rfl | rfl, rfl | rfl⟩ | ⟨rfl, rfl, rfl | rfl, rfl | rfl⟩ <;> constructor <;> grind
/-- one round of the curve, in local coordinates -/
theorem idx_four {i : Nat} {x y : Int} (hx : 0 ≤ x ∧ x < 2 * pw i) (hy : 0 ≤ y ∧ y < 2 * pw i) :
    (x < pw i → y < pw i → idx (i + 1) x y = idx i y x) ∧ (x < pw i → pw i ≤ y → idx (i + 1) x y = p4 i * 1 + idx i x (y - pw i)) ∧
    (pw i ≤ x → pw i ≤ y → idx (i + 1) x y = p4 i * 2 + idx i (x - pw i) (y - pw i)) ∧ (pw i ≤ x → y < pw i → idx (i + 1) x y = p4 i * 3 + idx i (pw i - 1 - y) (2 * pw i - 1 - x)) := by
  have hp := pw_pos i
  have qx := quo01 hp hx
  have qy := quo01 hp hy
  simp only [idx, pw_sq]
  refine ⟨fun a b => ?_, fun a b => ?_, fun a b => ?_, fun a b => ?_⟩
  · obtain ⟨x1, x2, _⟩ := qx.resolve_right (by omega)
    obtain ⟨y1, y2, _⟩ := qy.resolve_right (by omega)
    rw [x1, x2, y1, y2]; simp [dg, tx, ty]
  · obtain ⟨x1, x2, _⟩ := qx.resolve_right (by omega)
    obtain ⟨y1, y2, _⟩ := qy.resolve_left (by omega)
    rw [x1, x2, y1, y2]; simp [dg, tx, ty]
  · obtain ⟨x1, x2, _⟩ := qx.resolve_left (by omega)
    obtain ⟨y1, y2, _⟩ := qy.resolve_left (by omega)
    rw [x1, x2, y1, y2]; simp [dg, tx, ty]
  · obtain ⟨x1, x2, _⟩ := qx.resolve_left (by omega)
    obtain ⟨y1, y2, _⟩ := qy.resolve_right (by omega)
    rw [x1, x2, y1, y2]; simp only [dg, tx, ty]
    rw [show pw i - 1 - (x - pw i) = 2 * pw i - 1 - x by omega]; simp
/-- what holds ahead of a round -/
def Inv (px py N : Int) (j : Nat) (ax ay dx dy e_x e_y n : Int) : Prop :=
  j ≤ 22 ∧ Axes dx dy e_x e_y ∧ (0 ≤ lc px py ax ay dx dy ∧ lc px py ax ay dx dy < pw j) ∧ (0 ≤ lc px py ax ay e_x e_y ∧ lc px py ax ay e_x e_y < pw j) ∧ 0 ≤ n ∧ n * p4 j + idx j (lc px py ax ay e_x e_y) (lc px py ax ay dx dy) = N
theorem inv_open {px py N : Int} {i : Nat} {ax ay dx dy e_x e_y n : Int} (hN : N < 17592186044416) (hx : -1048576 ≤ px ∧ px ≤ 1048576) (hy : -1048576 ≤ py ∧ py ≤ 1048576) (h : Inv px py N (i + 1) ax ay dx dy e_x e_y n) :
    i ≤ 21 ∧ (0 < pw i ∧ pw i ≤ 2097152) ∧ ((-1 ≤ dx ∧ dx ≤ 1) ∧ (-1 ≤ dy ∧ dy ≤ 1) ∧ (-1 ≤ e_x ∧ e_x ≤ 1) ∧ (-1 ≤ e_y ∧ e_y ≤ 1)) ∧ ((-5242880 ≤ ax ∧ ax ≤ 5242880) ∧ (-5242880 ≤ ay ∧ ay ≤ 5242880)) ∧ (0 ≤ n ∧ n ≤ 17592186044416 / 4) := by
  obtain ⟨h1, h2, h3, h4, h5, h6⟩ := h
  have hp := pw_pos i
  have hpm : pw i ≤ pw 21 := pw_mono (by omega)
  have h21 : pw 21 = 2097152 := by decide
  rw [pw_succ] at h3 h4
  have b := lc_at (px := px) (py := py) (ax := ax) (ay := ay) (M := 4194304) (B := 1048576) h2 (by omega) (by omega) hx hy
  have ib := idx_bd (i + 1) (x := lc px py ax ay e_x e_y) (y := lc px py ax ay dx dy) (by rw [pw_succ]; exact h4) (by rw [pw_succ]; exact h3)
  have h4p := p4_pos i
  rw [p4_succ] at h6
  have : n * 4 ≤ n * (4 * p4 i) := Int.mul_le_mul_of_nonneg_left (by omega) h5
  exact ⟨by omega, by omega, axes_bd h2, by omega, by omega⟩
theorem inv_a {px py N : Int} {i : Nat} {ax ay dx dy e_x e_y n : Int} (h : Inv px py N (i + 1) ax ay dx dy e_x e_y n) (g : inb px py ax ay dx dy e_x e_y (pw i) = true) : Inv px py N i ax ay e_x e_y dx dy (n * 4) := by
  obtain ⟨h1, h2, h3, h4, h5, h6⟩ := h
  have k := (inb_iff _ _ _ _ _ _ _ _ _).1 g
  rw [pw_succ] at h3 h4
  have f := (idx_four h4 h3).1 k.2.2 k.1.2
  refine ⟨by omega, axes_swap h2, k.2, k.1, by omega, ?_⟩
  rw [f, p4_succ] at h6
  rw [← h6]; grind
theorem inv_b {px py N : Int} {i : Nat} {ax ay dx dy e_x e_y n : Int} (h : Inv px py N (i + 1) ax ay dx dy e_x e_y n) (g : inb px py (ax + dx * pw i) (ay + dy * pw i) dx dy e_x e_y (pw i) = true) : Inv px py N i (ax + dx * pw i) (ay + dy * pw i) dx dy e_x e_y (n * 4 + 1) := by
  obtain ⟨h1, h2, h3, h4, h5, h6⟩ := h
  have k := (inb_iff _ _ _ _ _ _ _ _ _).1 g
  have l := lc_up (px := px) (py := py) (ax := ax) (ay := ay) (s := pw i) h2
  rw [l.1, l.2] at k
  rw [pw_succ] at h3 h4
  have f := (idx_four h4 h3).2.1 k.2.2 (by omega)
  refine ⟨by omega, h2, by rw [l.1]; exact k.1, by rw [l.2]; exact k.2, by omega, ?_⟩
  rw [l.1, l.2]
  rw [f, p4_succ] at h6
  rw [← h6]; grind
theorem inv_c {px py N : Int} {i : Nat} {ax ay dx dy e_x e_y n : Int} (h : Inv px py N (i + 1) ax ay dx dy e_x e_y n) (g : inb px py (ax + dx * pw i + e_x * pw i) (ay + dy * pw i + e_y * pw i) dx dy e_x e_y (pw i) = true) :
    Inv px py N i (ax + dx * pw i + e_x * pw i) (ay + dy * pw i + e_y * pw i) dx dy e_x e_y (n * 4 + 2) := by
  obtain ⟨h1, h2, h3, h4, h5, h6⟩ := h
  have k := (inb_iff _ _ _ _ _ _ _ _ _).1 g
  have l := lc_over (px := px) (py := py) (ax := ax) (ay := ay) (s := pw i) h2
  rw [l.1, l.2] at k
  rw [pw_succ] at h3 h4
  have f := (idx_four h4 h3).2.2.1 (by omega) (by omega)
  refine ⟨by omega, h2, by rw [l.1]; exact k.1, by rw [l.2]; exact k.2, by omega, ?_⟩
  rw [l.1, l.2]
  rw [f, p4_succ] at h6
  rw [← h6]; grind
theorem inv_d {px py N : Int} {i : Nat} {ax ay dx dy e_x e_y n : Int} (h : Inv px py N (i + 1) ax ay dx dy e_x e_y n) (g1 : inb px py ax ay dx dy e_x e_y (pw i) = false)
    (g2 : inb px py (ax + dx * pw i) (ay + dy * pw i) dx dy e_x e_y (pw i) = false) (g3 : inb px py (ax + dx * pw i + e_x * pw i) (ay + dy * pw i + e_y * pw i) dx dy e_x e_y (pw i) = false) :
    Inv px py N i (ax + e_x * (2 * pw i - 1) + dx * (pw i - 1)) (ay + e_y * (2 * pw i - 1) + dy * (pw i - 1)) (0 - e_x) (0 - e_y) (0 - dx) (0 - dy) (n * 4 + 3) := by
  obtain ⟨h1, h2, h3, h4, h5, h6⟩ := h
  have k1 := fun q => Bool.eq_false_iff.1 g1 ((inb_iff px py ax ay dx dy e_x e_y (pw i)).2 q)
  have k2 := fun q => Bool.eq_false_iff.1 g2 ((inb_iff _ _ _ _ _ _ _ _ _).2 q)
  have k3 := fun q => Bool.eq_false_iff.1 g3 ((inb_iff _ _ _ _ _ _ _ _ _).2 q)
  have l1 := lc_up (px := px) (py := py) (ax := ax) (ay := ay) (s := pw i) h2
  have l2 := lc_over (px := px) (py := py) (ax := ax) (ay := ay) (s := pw i) h2
  have l := lc_last (px := px) (py := py) (ax := ax) (ay := ay) (s := pw i) h2
  rw [l1.1, l1.2] at k2
  rw [l2.1, l2.2] at k3
  rw [pw_succ] at h3 h4
  have hv : pw i ≤ lc px py ax ay e_x e_y := by
    rcases Int.lt_or_le (lc px py ax ay e_x e_y) (pw i) with q | q
    · rcases Int.lt_or_le (lc px py ax ay dx dy) (pw i) with r | r
      · exact absurd ⟨⟨h3.1, r⟩, h4.1, q⟩ k1
      · exact absurd ⟨⟨by omega, by omega⟩, h4.1, q⟩ k2
    · exact q
  have hu : lc px py ax ay dx dy < pw i := by
    rcases Int.lt_or_le (lc px py ax ay dx dy) (pw i) with r | r
    · exact r
    · exact absurd ⟨⟨by omega, by omega⟩, by omega, by omega⟩ k3
  have f := (idx_four h4 h3).2.2.2 hv hu
  refine ⟨by omega, axes_neg h2, by rw [l.1]; omega, by rw [l.2]; omega, by omega, ?_⟩
  rw [l.1, l.2]
  rw [f, p4_succ] at h6
  rw [← h6]; grind
theorem inv_start (x y : Int) : Inv (lim 1048576 x) (lim 1048576 y) (index x y) 22 (-1048576) (-1048576) 0 1 1 0 0 := by
  have h1 := lim_bd (m := 1048576) (by decide) x
  have h2 := lim_bd (m := 1048576) (by decide) y
  have e : pw 22 = 4194304 := by decide
  have e1 : lc (lim 1048576 x) (lim 1048576 y) (-1048576) (-1048576) 0 1 = lim 1048576 y + 1048576 := by unfold lc; omega
  have e2 : lc (lim 1048576 x) (lim 1048576 y) (-1048576) (-1048576) 1 0 = lim 1048576 x + 1048576 := by unfold lc; omega
  refine ⟨by omega, .inl ⟨rfl, rfl, .inl rfl, .inl rfl⟩, by rw [e1]; omega, by rw [e2]; omega, by omega, ?_⟩
  rw [e1, e2, Int.zero_mul, Int.zero_add]; rfl
theorem inv_end {px py N : Int} {j : Nat} {ax ay dx dy e_x e_y n : Int} (h : Inv px py N j ax ay dx dy e_x e_y n) (g : ¬ pw j > 1) : n = N := by
  cases j with
  | zero =>
    obtain ⟨_, _, _, _, _, h6⟩ := h
    have : p4 0 = 1 := rfl
    rw [this] at h6; simp only [idx] at h6; omega
  | succ j => have := pw_pos j; rw [pw_succ] at g; omega
theorem ofe_out {n : Int} (h : n < 0 ∨ n ≥ 17592186044416) : ofe n = 1 := by unfold ofe; rw [if_pos h]
theorem ofxy_nz {n : Int} (h : ¬ ofe n = 0) : ofx n = 0 ∧ ofy n = 0 := by unfold ofx ofy; exact ⟨if_neg h, if_neg h⟩
theorem pw_two {j : Nat} (h : pw j > 1) : ∃ i, j = i + 1 ∧ pw j / 2 = pw i := by
  cases j with
  | zero => exact absurd h (by decide)
  | succ i => exact ⟨i, rfl, by rw [pw_succ]; omega⟩
end Go.Proofs.Ytigllakcfdoagaa.Am.Sp
