import Derived.Test.YtndkhgfecnbmnaaM2
import Derived.SizedLaws
import Derived.Laws.MakeOwn
import Derived.Lib.AppendZeros
import Derived.Test.YtndkhgfecnbmnaaProg
namespace Go.Proofs.Ytndkhgfecnbmnaa.Am.Sp
def lim (m n : Int) : Int := max (-m) (min n m)
def cmp (a b : Int) : Int := if a < b then -1 else if b < a then 1 else 0
def sgn (a : Int) : Int := if a < 0 then -1 else if 0 < a then 1 else 0
theorem lim_bd {m : Int} (hm : 0 ≤ m) (n : Int) : -m ≤ lim m n ∧ lim m n ≤ m := by unfold lim; omega
theorem emod_bd (x : Int) {n : Int} (h : 0 < n) : 0 ≤ x % n ∧ x % n < n := ⟨Int.emod_nonneg x (by omega), Int.emod_lt_of_pos x h⟩
theorem tmod_lo {x n : Int} (hn : 0 < n) : -n < Int.tmod x n := by
  have h1 := Int.tmod_eq_emod (a := x) (b := n)
  have := emod_bd x hn
  split at h1 <;> omega
theorem below_neg {x n : Int} (hn : 0 < n) (h : Int.tmod x n < 0) : Int.tmod x n + n = x % n := by
  have h1 := Int.tmod_eq_emod (a := x) (b := n)
  have := emod_bd x hn
  split at h1 <;> omega
theorem below_pos {x n : Int} (hn : 0 < n) (h : ¬ Int.tmod x n < 0) : Int.tmod x n = x % n := by
  have h1 := Int.tmod_eq_emod (a := x) (b := n)
  have := emod_bd x hn
  split at h1 <;> omega
theorem mul_bd {a b A B : Int} (h1 : -A ≤ a) (h2 : a ≤ A) (h3 : -B ≤ b) (h4 : b ≤ B) : -(A * B) ≤ a * b ∧ a * b ≤ A * B := by
  have hA : 0 ≤ A := by omega
  have hB : 0 ≤ B := by omega
  have e1 : 0 ≤ (A - a) * (B - b) := Int.mul_nonneg (by omega) (by omega)
  have e2 : 0 ≤ (A + a) * (B + b) := Int.mul_nonneg (by omega) (by omega)
  have e3 : 0 ≤ (A - a) * (B + b) := Int.mul_nonneg (by omega) (by omega)
  have e4 : 0 ≤ (A + a) * (B - b) := Int.mul_nonneg (by omega) (by omega)
  constructor <;> grind
def crs (ax ay bx b_y cx cy : Int) : Int := (bx - ax) * (cy - ay) - (b_y - ay) * (cx - ax)
def dot (ax ay bx b_y cx cy : Int) : Int := (bx - ax) * (cx - ax) + (b_y - ay) * (cy - ay)
def pcmp (ax ay bx b_y : Int) : Int := if (cmp ax bx != 0) = true then cmp ax bx else cmp ay b_y
def In64 (x : Int) : Prop := -9223372036854775808 ≤ x ∧ x ≤ 9223372036854775807
theorem tdiv_in {x n : Int} (h : In64 x) (hn : 1 < n) : -9223372036854775808 ≤ Int.tdiv x n ∧ Int.tdiv x n ≤ 9223372036854775807 := by
  obtain ⟨h1, h2⟩ := h
  have e := Int.mul_tdiv_add_tmod x n
  have l := tmod_lo (x := x) (n := n) (by omega)
  have u : Int.tmod x n < n := Int.tmod_lt_of_pos x (by omega)
  constructor
  · rcases Int.lt_or_le (Int.tdiv x n) (-9223372036854775808) with h | h
    · exfalso
      have : n * Int.tdiv x n ≤ n * (-9223372036854775809) := Int.mul_le_mul_of_nonneg_left (by omega) (by omega)
      omega
    · exact h
  · rcases Int.lt_or_le 9223372036854775807 (Int.tdiv x n) with h | h
    · exfalso
      have : n * 9223372036854775808 ≤ n * Int.tdiv x n := Int.mul_le_mul_of_nonneg_left (by omega) (by omega)
      omega
    · exact h
theorem lim_id {m n : Int} (h1 : -m ≤ n) (h2 : n ≤ m) : lim m n = n := by unfold lim; omega
theorem cmp_zero (a b : Int) : cmp a b = 0 ↔ a = b := by unfold cmp; (repeat' split) <;> omega
theorem cmp_bd (a b : Int) : -1 ≤ cmp a b ∧ cmp a b ≤ 1 := by unfold cmp; (repeat' split) <;> omega
end Go.Proofs.Ytndkhgfecnbmnaa.Am.Sp
namespace Go.Proofs.Ytndkhgfecnbmnaa.Am.Sp
end Go.Proofs.Ytndkhgfecnbmnaa.Am.Sp
namespace Go.Proofs.Ytndkhgfecnbmnaa.Am.Sp
def onb (ax ay bx b_y px py : Int) : Bool := cmp (crs ax ay bx b_y px py) 0 == 0 && decide (dot px py ax ay bx b_y ≤ 0)
theorem crs_move (ax ay bx b_y cx cy gx gy : Int) : crs ax ay bx b_y cx cy = crs (ax + gx) (ay + gy) (bx + gx) (b_y + gy) (cx + gx) (cy + gy) := by
  unfold crs
  rw [show bx + gx - (ax + gx) = bx - ax by omega, show cy + gy - (ay + gy) = cy - ay by omega, show b_y + gy - (ay + gy) = b_y - ay by omega, show cx + gx - (ax + gx) = cx - ax by omega]
theorem onb_iff (ax ay bx b_y px py : Int) : onb ax ay bx b_y px py = true ↔ crs ax ay bx b_y px py = 0 ∧ dot px py ax ay bx b_y ≤ 0 := by
  unfold onb
  rw [Bool.and_eq_true, beq_iff_eq, cmp_zero, decide_eq_true_iff]
def quarter (x y : Int) : Int := if x = 0 ∧ y = 0 then 0 else if 0 < x ∧ 0 ≤ y then 1 else if x ≤ 0 ∧ 0 < y then 2 else if x < 0 then 3 else 4
theorem pcmp_form (ax ay bx b_y : Int) : pcmp ax ay bx b_y = if ax < bx then -1 else if bx < ax then 1 else if ay < b_y then -1 else if b_y < ay then 1 else 0 := by
  unfold pcmp
  by_cases h : ax < bx
  · simp [cmp, h]
  · by_cases g : bx < ax
    · simp [cmp, h, g]
    · have : ax = bx := by omega
      subst this
      simp [cmp]
end Go.Proofs.Ytndkhgfecnbmnaa.Am.Sp
namespace Go.Proofs.Ytndkhgfecnbmnaa.Am.Sp
def pw (j : Nat) : Int := 2 ^ j
def p4 (j : Nat) : Int := 4 ^ j
theorem pw_succ (j : Nat) : pw (j + 1) = 2 * pw j := by unfold pw; rw [Int.pow_succ]; omega
theorem p4_succ (j : Nat) : p4 (j + 1) = 4 * p4 j := by unfold p4; rw [Int.pow_succ]; omega
theorem pw_pos (j : Nat) : 0 < pw j := by induction j with | zero => decide | succ n ih => rw [pw_succ]; omega
theorem p4_pos (j : Nat) : 0 < p4 j := by induction j with | zero => decide | succ n ih => rw [p4_succ]; omega
theorem pw_sq (j : Nat) : pw j * pw j = p4 j := by
  induction j with
  | zero => decide
  | succ n ih => rw [pw_succ, p4_succ, ← ih]; grind
theorem pw_add (m k : Nat) : pw (m + k) = pw m * pw k := by unfold pw; exact Int.pow_add _ _ _
theorem p4_add (m k : Nat) : p4 (m + k) = p4 m * p4 k := by unfold p4; exact Int.pow_add _ _ _
def tx (x y s r u : Int) : Int := if u = 1 then x else if r = 1 then s - 1 - y else y
def ty (x y s r u : Int) : Int := if u = 1 then y else if r = 1 then s - 1 - x else x
def dg (r u : Int) : Int := if r = 0 then (if u = 0 then 0 else 1) else if u = 0 then 3 else 2
def rdg (d : Int) : Int := d / 2
def udg (d : Int) : Int := (d + d / 2) % 2
theorem t_bd {x y s r u : Int} (h1 : 0 ≤ x ∧ x < s) (h2 : 0 ≤ y ∧ y < s) : (0 ≤ tx x y s r u ∧ tx x y s r u < s) ∧ (0 ≤ ty x y s r u ∧ ty x y s r u < s) := by
  unfold tx ty; (repeat' split) <;> omega
theorem t_inv (x y s r u : Int) : tx (tx x y s r u) (ty x y s r u) s r u = x ∧ ty (tx x y s r u) (ty x y s r u) s r u = y := by
  unfold tx ty; (repeat' split) <;> omega
theorem dg_bd {r u : Int} (hr : r = 0 ∨ r = 1) (hu : u = 0 ∨ u = 1) : (0 ≤ dg r u ∧ dg r u < 4) ∧ rdg (dg r u) = r ∧ udg (dg r u) = u := by
  rcases hr with rfl | rfl <;> rcases hu with rfl | rfl <;> decide
def idx : Nat → Int → Int → Int
  | 0, _, _ => 0
  | j + 1, x, y => pw j * pw j * dg (x / pw j) (y / pw j) + idx j (tx (x % pw j) (y % pw j) (pw j) (x / pw j) (y / pw j)) (ty (x % pw j) (y % pw j) (pw j) (x / pw j) (y / pw j))
def pos : Nat → Int → Int × Int
  | 0, _ => (0, 0)
  | j + 1, n => (tx (pos j n).1 (pos j n).2 (pw j) (rdg (n / p4 j % 4)) (udg (n / p4 j % 4)) + pw j * rdg (n / p4 j % 4), ty (pos j n).1 (pos j n).2 (pw j) (rdg (n / p4 j % 4)) (udg (n / p4 j % 4)) + pw j * udg (n / p4 j % 4))
theorem quo01 {x s : Int} (hs : 0 < s) (h : 0 ≤ x ∧ x < 2 * s) : (x / s = 0 ∧ x % s = x ∧ x < s) ∨ (x / s = 1 ∧ x % s = x - s ∧ s ≤ x) := by
  rcases Int.lt_or_le x s with q | q
  · exact .inl ⟨Int.ediv_eq_zero_of_lt h.1 q, Int.emod_eq_of_lt h.1 q, q⟩
  · have e1 : x / s = 1 := by
      rw [show x = (x - s) + s * 1 by omega, Int.add_mul_ediv_left _ _ (by omega), Int.ediv_eq_zero_of_lt (by omega) (by omega)]; rfl
    have := Int.mul_ediv_add_emod x s
    rw [e1] at this
    exact .inr ⟨e1, by omega, q⟩
theorem idx_bd : ∀ (j : Nat) {x y : Int}, (0 ≤ x ∧ x < pw j) → (0 ≤ y ∧ y < pw j) → 0 ≤ idx j x y ∧ idx j x y < p4 j := by
  intro j
  induction j with
  | zero => intro x y _ _; exact ⟨by show (0 : Int) ≤ 0; omega, by show (0 : Int) < 1; omega⟩
  | succ j ih =>
    intro x y hx hy
    rw [pw_succ] at hx hy
    have hp := pw_pos j
    have hm := fun z => emod_bd z hp
    have hb := ih (t_bd (s := pw j) (r := x / pw j) (u := y / pw j) (hm x) (hm y)).1 (t_bd (s := pw j) (r := x / pw j) (u := y / pw j) (hm x) (hm y)).2
    have d := (dg_bd (r := x / pw j) (u := y / pw j) (by rcases quo01 hp hx with q | q <;> omega) (by rcases quo01 hp hy with q | q <;> omega)).1
    unfold idx
    rw [p4_succ, pw_sq]
    have h4 := p4_pos j
    generalize dg (x / pw j) (y / pw j) = e at *
    have : e = 0 ∨ e = 1 ∨ e = 2 ∨ e = 3 := by omega
    rcases this with rfl | rfl | rfl | rfl <;> omega
theorem pos_low (n m : Int) (j : Nat) : pos j (n + p4 j * m) = pos j n := by
  induction j generalizing m with
  | zero => rfl
  | succ j ih =>
    have h4 := p4_pos j
    have e : n + p4 (j + 1) * m = n + p4 j * (4 * m) := by rw [p4_succ]; grind
    rw [e]
    have e2 : (n + p4 j * (4 * m)) / p4 j % 4 = n / p4 j % 4 := by rw [Int.add_mul_ediv_left _ _ (by omega)]; omega
    simp only [pos, ih, e2]
theorem pos_idx : ∀ (j : Nat) {x y : Int}, (0 ≤ x ∧ x < pw j) → (0 ≤ y ∧ y < pw j) → pos j (idx j x y) = (x, y) := by
  intro j
  induction j with
  | zero => intro x y h1 h2; have : pw 0 = 1 := rfl; have a : x = 0 := by omega
            have b : y = 0 := by omega
            subst a b; rfl
  | succ j ih =>
    intro x y hx hy
    rw [pw_succ] at hx hy
    have hp := pw_pos j
    have h4 := p4_pos j
    have hm := fun z => emod_bd z hp
    have t := t_bd (s := pw j) (r := x / pw j) (u := y / pw j) (hm x) (hm y)
    have ib := idx_bd j t.1 t.2
    have ih' := ih t.1 t.2
    have d := dg_bd (r := x / pw j) (u := y / pw j) (by rcases quo01 hp hx with q | q <;> omega) (by rcases quo01 hp hy with q | q <;> omega)
    have i := t_inv (x % pw j) (y % pw j) (pw j) (x / pw j) (y / pw j)
    simp only [idx]
    rw [pw_sq]
    generalize hI : idx j (tx (x % pw j) (y % pw j) (pw j) (x / pw j) (y / pw j)) (ty (x % pw j) (y % pw j) (pw j) (x / pw j) (y / pw j)) = I at *
    generalize hD : dg (x / pw j) (y / pw j) = D at *
    rw [Int.add_comm]
    have e2 : (I + p4 j * D) / p4 j % 4 = D := by rw [Int.add_mul_ediv_left _ _ (by omega), Int.ediv_eq_zero_of_lt ib.1 ib.2]; omega
    simp only [pos, pos_low, e2, ih', d.2.1, d.2.2, i.1, i.2]
    have a := Int.mul_ediv_add_emod x (pw j); have b := Int.mul_ediv_add_emod y (pw j)
    exact Prod.ext (by show _ = x; omega) (by show _ = y; omega)
def nb (a b c d : Int) : Prop := (a = c ∧ (b = d + 1 ∨ d = b + 1)) ∨ (b = d ∧ (a = c + 1 ∨ c = a + 1))
theorem div_mod_pw (x : Int) (m k : Nat) : x / pw k / pw m = x / pw (m + k) ∧ x / pw k % pw m = x % pw (m + k) / pw k := by
  have hk := pw_pos k
  have hm := pw_pos m
  have e1 : x / pw k / pw m = x / pw (m + k) := by rw [pw_add, Int.mul_comm, Int.ediv_ediv_of_nonneg (by omega)]
  refine ⟨e1, ?_⟩
  have a := Int.mul_ediv_add_emod (x / pw k) (pw m)
  have b := Int.mul_ediv_add_emod x (pw (m + k))
  rw [e1] at a
  have c : x % pw (m + k) / pw k = x / pw k - pw m * (x / pw (m + k)) := by
    have : x % pw (m + k) = x + pw k * (-(pw m * (x / pw (m + k)))) := by
      have : pw (m + k) * (x / pw (m + k)) = pw k * (pw m * (x / pw (m + k))) := by rw [pw_add]; grind
      rw [Int.mul_neg]; omega
    rw [this, Int.add_mul_ediv_left _ _ (by omega)]; omega
  omega
theorem t_div {a b r u : Int} (m k : Nat) (_ha : 0 ≤ a ∧ a < pw (m + k)) (_hb : 0 ≤ b ∧ b < pw (m + k)) : tx (a / pw k) (b / pw k) (pw m) r u = tx a b (pw (m + k)) r u / pw k ∧ ty (a / pw k) (b / pw k) (pw m) r u = ty a b (pw (m + k)) r u / pw k := by
  have hk := pw_pos k
  have key : ∀ z : Int, (pw (m + k) - 1 - z) / pw k = pw m - 1 - z / pw k := by
    intro z
    have e := Int.mul_ediv_add_emod z (pw k)
    have b := emod_bd z hk
    have : pw (m + k) - 1 - z = (pw k - 1 - z % pw k) + pw k * (pw m - 1 - z / pw k) := by
      rw [pw_add, Int.mul_sub, Int.mul_sub, Int.mul_comm (pw m)]; omega
    rw [this, Int.add_mul_ediv_left _ _ (by omega), Int.ediv_eq_zero_of_lt (by omega) (by omega)]; omega
  unfold tx ty
  constructor
  · split
    · rfl
    · split
      · rw [key]
      · rfl
  · split
    · rfl
    · split
      · rw [key]
      · rfl
theorem idx_div (k : Nat) : ∀ (m : Nat) {x y : Int}, (0 ≤ x ∧ x < pw (m + k)) → (0 ≤ y ∧ y < pw (m + k)) → idx (m + k) x y / p4 k = idx m (x / pw k) (y / pw k) := by
  intro m
  induction m with
  | zero =>
    intro x y hx hy
    rw [Nat.zero_add] at *
    have := idx_bd k hx hy
    rw [Int.ediv_eq_zero_of_lt this.1 this.2]; rfl
  | succ m ih =>
    intro x y hx hy
    have e : m + 1 + k = (m + k) + 1 := by omega
    rw [e] at hx hy ⊢
    have hp := pw_pos (m + k)
    have h4 := p4_pos k
    have hm := fun z => emod_bd z hp
    have t := t_bd (s := pw (m + k)) (r := x / pw (m + k)) (u := y / pw (m + k)) (hm x) (hm y)
    have i := ih t.1 t.2
    have td := t_div (r := x / pw (m + k)) (u := y / pw (m + k)) m k (hm x) (hm y)
    simp only [idx]
    rw [(div_mod_pw x m k).1, (div_mod_pw x m k).2, (div_mod_pw y m k).1, (div_mod_pw y m k).2, td.1, td.2, ← i, pw_sq, pw_sq, p4_add]
    rw [Int.add_comm, show p4 m * p4 k * dg (x / pw (m + k)) (y / pw (m + k)) = p4 k * (p4 m * dg (x / pw (m + k)) (y / pw (m + k))) by grind, Int.add_mul_ediv_left _ _ (by omega)]
    omega
theorem idx_inj {j : Nat} {x y x' y' : Int} (h1 : 0 ≤ x ∧ x < pw j) (h2 : 0 ≤ y ∧ y < pw j) (h3 : 0 ≤ x' ∧ x' < pw j) (h4 : 0 ≤ y' ∧ y' < pw j) : idx j x y = idx j x' y' ↔ x = x' ∧ y = y' := by
  constructor
  · intro h
    have a := pos_idx j h1 h2
    have b := pos_idx j h3 h4
    rw [h, b] at a
    exact ⟨(congrArg Prod.fst a).symm, (congrArg Prod.snd a).symm⟩
  · rintro ⟨rfl, rfl⟩; rfl
end Go.Proofs.Ytndkhgfecnbmnaa.Am.Sp
namespace Go.Proofs.Ytndkhgfecnbmnaa.Am.Sp
def index (x y : Int) : Int := idx 22 (lim 1048576 x + 1048576) (lim 1048576 y + 1048576)
def okb (x y : Int) : Bool := (x == lim 1048576 x) && ((y == lim 1048576 y) && true)
theorem okb_iff (x y : Int) : okb x y = true ↔ (-1048576 ≤ x ∧ x ≤ 1048576) ∧ (-1048576 ≤ y ∧ y ≤ 1048576) := by
  unfold okb lim
  rw [Bool.and_eq_true, Bool.and_eq_true, beq_iff_eq, beq_iff_eq]
  simp only [and_true]
  omega
theorem squares {a b c d : Int} {k : Nat} (hk : k < 9) (h : (-1048576 ≤ a ∧ a ≤ 1048576) ∧ (-1048576 ≤ b ∧ b ≤ 1048576) ∧ (-1048576 ≤ c ∧ c ≤ 1048576) ∧ (-1048576 ≤ d ∧ d ≤ 1048576)) :
    (index a b / p4 k == index c d / p4 k) = (((a + 1048576) / pw k == (c + 1048576) / pw k) && ((b + 1048576) / pw k == (d + 1048576) / pw k)) := by
  have e : pw 22 = 4194304 := by decide
  obtain ⟨m, hm⟩ : ∃ m, 22 = m + k := ⟨22 - k, by omega⟩
  have ew : pw (m + k) = 4194304 := by rw [← hm, e]
  rw [Bool.eq_iff_iff, Bool.and_eq_true, beq_iff_eq, beq_iff_eq, beq_iff_eq]
  unfold index
  rw [lim_id h.1.1 h.1.2, lim_id h.2.1.1 h.2.1.2, lim_id h.2.2.1.1 h.2.2.1.2, lim_id h.2.2.2.1 h.2.2.2.2]
  rw [hm, idx_div k m (by omega) (by omega), idx_div k m (by omega) (by omega)]
  have q : ∀ {z : Int}, (0 ≤ z ∧ z < pw (m + k)) → 0 ≤ z / pw k ∧ z / pw k < pw m := by
    intro z hz
    have := pw_pos k
    refine ⟨Int.ediv_nonneg hz.1 (by omega), Int.ediv_lt_of_lt_mul this ?_⟩
    rw [← pw_add]; exact hz.2
  rw [idx_inj (q (by omega)) (q (by omega)) (q (by omega)) (q (by omega))]
end Go.Proofs.Ytndkhgfecnbmnaa.Am.Sp
namespace Go.Proofs.Ytndkhgfecnbmnaa.Am.Sp
end Go.Proofs.Ytndkhgfecnbmnaa.Am.Sp
namespace Go.Proofs.Ytndkhgfecnbmnaa.Am.Sp
def mn (a b : Int) : Int := if b < a then b else a
def mx (a b : Int) : Int := if b > a then b else a
def inbox (lx ly hx hy px py : Int) : Bool := decide (lx ≤ px) && (decide (px ≤ hx) && (decide (ly ≤ py) && decide (py ≤ hy)))
def meet (a b c d e f g h : Int) : Bool := inbox a b c d (mx a e) (mx b f) && inbox e f g h (mx a e) (mx b f)
end Go.Proofs.Ytndkhgfecnbmnaa.Am.Sp

set_option linter.unusedVariables false
set_option linter.unusedSimpArgs false
namespace Go.Proofs.Ytndkhgfecnbmnaa.Am.Sp
/-- the corner is in the quarter between the ray to the right and the ray down -/
def qd4 (x y : Int) : Bool := decide (0 ≤ x) && decide (y < 0)
end Go.Proofs.Ytndkhgfecnbmnaa.Am.Sp
set_option linter.unusedVariables false
set_option linter.unusedSimpArgs false
namespace Go.Proofs.Ytndkhgfecnbmnaa.Am.Sp
def q4 (p a : Int × Int) : Bool := qd4 (a.1 - p.1) (a.2 - p.2)
end Go.Proofs.Ytndkhgfecnbmnaa.Am.Sp
set_option linter.unusedVariables false
set_option linter.unusedSimpArgs false
namespace Go.Proofs.Ytndkhgfecnbmnaa.Am.Sp
def move2 (d a : Int × Int) : Int × Int := (a.1 + d.1, a.2 + d.2)
theorem onb_move2 (d a b p : Int × Int) : onb (move2 d a).1 (move2 d a).2 (move2 d b).1 (move2 d b).2 (move2 d p).1 (move2 d p).2 = onb a.1 a.2 b.1 b.2 p.1 p.2 := by
  rw [Bool.eq_iff_iff, onb_iff, onb_iff]
  have e1 : crs (move2 d a).1 (move2 d a).2 (move2 d b).1 (move2 d b).2 (move2 d p).1 (move2 d p).2 = crs a.1 a.2 b.1 b.2 p.1 p.2 := by unfold move2 crs; grind
  have e2 : dot (move2 d p).1 (move2 d p).2 (move2 d a).1 (move2 d a).2 (move2 d b).1 (move2 d b).2 = dot p.1 p.2 a.1 a.2 b.1 b.2 := by unfold move2 dot; grind
  rw [e1, e2]
end Go.Proofs.Ytndkhgfecnbmnaa.Am.Sp
set_option linter.unusedVariables false
set_option linter.unusedSimpArgs false
namespace Go.Proofs.Ytndkhgfecnbmnaa.Am.Sp
/-- the test of an edge, as the code makes it -/
def crX (ax ay bx by_ x y : Int) : Bool := if ay > by_ then decide (by_ < y) && (decide (y ≤ ay) && decide (cmp (crs bx by_ ax ay x y) 0 > 0)) else decide (ay < y) && (decide (y ≤ by_) && decide (cmp (crs ax ay bx by_ x y) 0 > 0))
def cA (ps : List (Int × Int)) (i : Nat) : Int := lim 1048576 (ps.getD i (0, 0)).1
def cB (ps : List (Int × Int)) (i : Nat) : Int := lim 1048576 (ps.getD i (0, 0)).2
def hasF (ps : List (Int × Int)) (x y : Int) (i : Nat) (out : Int) : Int :=
  if i < ps.length then
    if onb (cA ps i) (cB ps i) (cA ps ((i + 1) % ps.length)) (cB ps ((i + 1) % ps.length)) x y = true then 0
    else hasF ps x y (i + 1) (if crX (cA ps i) (cB ps i) (cA ps ((i + 1) % ps.length)) (cB ps ((i + 1) % ps.length)) x y = true then 0 - out else out)
  else out
termination_by ps.length - i
theorem hasF_end {ps : List (Int × Int)} {x y : Int} {i : Nat} {out : Int} (h : ¬ i < ps.length) : hasF ps x y i out = out := by rw [hasF, if_neg h]
theorem hasF_on {ps : List (Int × Int)} {x y : Int} {i j : Nat} {out : Int} (h : i < ps.length) (hj : (i + 1) % ps.length = j) (o : onb (cA ps i) (cB ps i) (cA ps j) (cB ps j) x y = true) : hasF ps x y i out = 0 := by
  rw [hasF, if_pos h, hj, if_pos o]
theorem hasF_cr {ps : List (Int × Int)} {x y : Int} {i j : Nat} {out : Int} (h : i < ps.length) (hj : (i + 1) % ps.length = j) (o : onb (cA ps i) (cB ps i) (cA ps j) (cB ps j) x y = false) (c : crX (cA ps i) (cB ps i) (cA ps j) (cB ps j) x y = true) : hasF ps x y (i + 1) (0 - out) = hasF ps x y i out := by
  conv => rhs; rw [hasF, if_pos h, hj, if_neg (by rw [o]; decide), if_pos c]
theorem hasF_no {ps : List (Int × Int)} {x y : Int} {i j : Nat} {out : Int} (h : i < ps.length) (hj : (i + 1) % ps.length = j) (o : onb (cA ps i) (cB ps i) (cA ps j) (cB ps j) x y = false) (c : crX (cA ps i) (cB ps i) (cA ps j) (cB ps j) x y = false) : hasF ps x y (i + 1) out = hasF ps x y i out := by
  conv => rhs; rw [hasF, if_pos h, hj, if_neg (by rw [o]; decide), if_neg (by rw [c]; decide)]
variable {ax ay bx b_y x y : Int}
theorem crX_d1 (h : decide (ay > b_y) = true) (h1 : decide (b_y < y) = false) : crX ax ay bx b_y x y = false := by unfold crX; rw [if_pos (of_decide_eq_true h), h1]; rfl
theorem crX_d2 (h : decide (ay > b_y) = true) (h1 : decide (b_y < y) = true) (h2 : decide (y ≤ ay) = false) : crX ax ay bx b_y x y = false := by unfold crX; rw [if_pos (of_decide_eq_true h), h1, h2]; rfl
theorem crX_d3 (h : decide (ay > b_y) = true) (h1 : decide (b_y < y) = true) (h2 : decide (y ≤ ay) = true) (h3 : decide (cmp (crs bx b_y ax ay x y) 0 > 0) = false) : crX ax ay bx b_y x y = false := by unfold crX; rw [if_pos (of_decide_eq_true h), h1, h2, h3]; rfl
theorem crX_d4 (h : decide (ay > b_y) = true) (h1 : decide (b_y < y) = true) (h2 : decide (y ≤ ay) = true) (h3 : decide (cmp (crs bx b_y ax ay x y) 0 > 0) = true) : crX ax ay bx b_y x y = true := by unfold crX; rw [if_pos (of_decide_eq_true h), h1, h2, h3]; rfl
theorem crX_u1 (h : decide (ay > b_y) = false) (h1 : decide (ay < y) = false) : crX ax ay bx b_y x y = false := by unfold crX; rw [if_neg (of_decide_eq_false h), h1]; rfl
theorem crX_u2 (h : decide (ay > b_y) = false) (h1 : decide (ay < y) = true) (h2 : decide (y ≤ b_y) = false) : crX ax ay bx b_y x y = false := by unfold crX; rw [if_neg (of_decide_eq_false h), h1, h2]; rfl
theorem crX_u3 (h : decide (ay > b_y) = false) (h1 : decide (ay < y) = true) (h2 : decide (y ≤ b_y) = true) (h3 : decide (cmp (crs ax ay bx b_y x y) 0 > 0) = false) : crX ax ay bx b_y x y = false := by unfold crX; rw [if_neg (of_decide_eq_false h), h1, h2, h3]; rfl
theorem crX_u4 (h : decide (ay > b_y) = false) (h1 : decide (ay < y) = true) (h2 : decide (y ≤ b_y) = true) (h3 : decide (cmp (crs ax ay bx b_y x y) 0 > 0) = true) : crX ax ay bx b_y x y = true := by unfold crX; rw [if_neg (of_decide_eq_false h), h1, h2, h3]; rfl
theorem getD_lt {l : List (Int × Int)} {i : Nat} {d : Int × Int} (h : i < l.length) : l.getD i d = l[i] := by simp [List.getD, h]
end Go.Proofs.Ytndkhgfecnbmnaa.Am.Sp

namespace Go.Proofs.Ytndkhgfecnbmnaa.Am
open Go
set_option linter.unusedVariables false
def renS : List (Nat × Nat) → Nat → Nat
  | [], k => k
  | (a, b) :: l, k => bif Nat.beq k a then b else renS l k
def RenT (σ : Nat → Nat) (p : Nat → Prop) : List (Nat × Value) → List (Nat × Value) → Prop
  | [], [] => True
  | (t, v) :: l, (t0, v0) :: l0 => t = t0 ∧ RenV σ p v v0 ∧ RenT σ p l l0
  | _, _ => False
theorem RenT.left {σ : Nat → Nat} {p : Nat → Prop} {l l0 : List (Nat × Value)} (h : RenT σ p l l0) {t : Nat} {v : Value} (hm : (t, v) ∈ l) : ∃ v0, (t, v0) ∈ l0 ∧ RenV σ p v v0 := by
  induction l generalizing l0 with
  | nil => cases hm
  | cons x l ih =>
    cases l0 with
    | nil => exact h.elim
    | cons y l0 =>
      obtain ⟨h1, h2, h3⟩ := h
      cases hm with
      | head => obtain ⟨t0, v0⟩ := y; have h1 : t = t0 := h1; subst h1; exact ⟨v0, List.mem_cons_self, h2⟩
      | tail _ hm => obtain ⟨v0, a, b⟩ := ih h3 hm; exact ⟨v0, List.mem_cons_of_mem _ a, b⟩
def renChk (m : Nat) (ren : List (Nat × Nat)) (ks : List Nat) : Bool :=
  ren.all (fun x => Nat.ble m x.1) && ks.all (fun i => (Nat.blt i m || Nat.ble m (renS ren i)) && ks.all (fun j => Nat.beq i j || !Nat.beq (renS ren i) (renS ren j)))
theorem renS_lt {m : Nat} {ren : List (Nat × Nat)} (h : ren.all (fun x => Nat.ble m x.1) = true) {k : Nat} (hk : k < m) : renS ren k = k := by
  induction ren with
  | nil => rfl
  | cons x l ih =>
    obtain ⟨a, b⟩ := x
    rw [List.all_cons, Bool.and_eq_true] at h
    have h1 := Nat.le_of_ble_eq_true h.1
    have : Nat.beq k a = false := by
      cases hb : Nat.beq k a with
      | false => rfl
      | true => have := Nat.eq_of_beq_eq_true hb; have h1 : m ≤ a := h1; omega
    simp only [renS, this, cond_false]
    exact ih h.2
theorem weak_ren {C : Ctx} {S : St} {T T0 : List (Nat × Value)} {L L0 : List (Nat × Blk)} (ren : List (Nat × Nat)) (hT : AllT S T0) (hL : AllH S L0) (rT : RenT (renS ren) (keyB C.m L) T T0) (rL : RenH (renS ren) (keyB C.m L) L L0)
    (hc : renChk C.m ren (L.map (·.1)) = true) : Weak C S (mkSt C.m T L) := by
  unfold renChk at hc
  rw [Bool.and_eq_true] at hc
  obtain ⟨c1, c2⟩ := hc
  have sl : ∀ k, k < C.m → renS ren k = k := fun k hk => renS_lt c1 hk
  have mem : ∀ k, keyB C.m L k → k < C.m ∨ k ∈ L.map (·.1) := fun k hk => by
    unfold keyB at hk
    rw [Bool.or_eq_true] at hk
    exact hk.imp blt_lt any_beq.1
  have inj : ∀ i j, i ∈ L.map (·.1) → j ∈ L.map (·.1) → renS ren i = renS ren j → i = j := fun i j hi hj e => by
    have h := List.all_eq_true.1 c2 i hi
    rw [Bool.and_eq_true] at h
    have h := List.all_eq_true.1 h.2 j hj
    rw [Bool.or_eq_true] at h
    rcases h with h | h
    · exact Nat.eq_of_beq_eq_true h
    · rw [e] at h; simp at h
  intro ρ a w h
  have hdf : ∀ k b, base C.m k ≠ .live b := fun k b e => by unfold base at e; cases hh : Nat.blt k C.m <;> rw [hh] at e <;> cases e
  let ρ' : Ren := fun k => bif (Nat.blt k C.m || (L.map (·.1)).any (Nat.beq k)) then ρ (renS ren k) else none
  have hp : ∀ k, keyB C.m L k → ρ' k = ρ (renS ren k) := fun k hk => by
    have hk' : (Nat.blt k C.m || (L.map (·.1)).any (Nat.beq k)) = true := hk
    simp only [ρ', hk', cond_true]
  have hlive : ∀ k b, ofH (base C.m k) L k = .live b → ∃ b0, S.H (renS ren k) = .live b0 ∧ RenB (renS ren) (keyB C.m L) b b0 ∧ k ∈ L.map (·.1) ∧ keyB C.m L k := fun k b hk => by
    have hm := ofH_live (hdf k) hk
    obtain ⟨b0, m0, r0⟩ := rL.left hm
    have hmem : k ∈ L.map (·.1) := List.mem_map.2 ⟨(k, b), hm, rfl⟩
    exact ⟨b0, hL.mem m0, r0, hmem, by unfold keyB; rw [any_beq.2 hmem]; simp⟩
  refine ⟨ρ', h.size, h.defers, fun t v hv => ?_, ⟨fun k hk => ?_, fun k b hk => ?_, ?_⟩, h.frame, fun k b sp hk ho hsp => ?_, fun k hk => ?_⟩
  · obtain ⟨v0, m0, r0⟩ := rT.left (ofT_some hv)
    obtain ⟨v', h1, h2⟩ := h.temps t v0 (hT.mem m0)
    exact ⟨v', h1, r0.into hp h2⟩
  · have hk2 : ofH (base C.m k) L k = .fresh := hk
    have hn : ¬ (Nat.blt k C.m || (L.map (·.1)).any (Nat.beq k)) = true := fun hb => by
      by_cases hm : k ∈ L.map (·.1)
      · obtain ⟨b, hb'⟩ := ofH_key (d := base C.m k) hm
        rw [hb'] at hk2; cases hk2
      · rw [ofH_nokey hm] at hk2
        rw [Bool.or_eq_true] at hb
        rcases hb with hb | hb
        · unfold base at hk2; rw [hb] at hk2; cases hk2
        · exact hm (any_beq.1 hb)
    simp only [ρ', hn, cond_false]
  · obtain ⟨b0, h1, r0, hm, h3⟩ := hlive k b hk
    obtain ⟨sp, e1, e2⟩ := h.heap.live _ b0 h1
    exact ⟨sp, by rw [hp k h3]; exact e1, r0.into hp e2⟩
  · intro k1 k2 b1 b2 sp1 sp2 hne h1 h2 ho nv e1 e2
    obtain ⟨c1, a1, r1, m1, q1⟩ := hlive k1 b1 h1
    obtain ⟨c2, a2, r2, m2, q2⟩ := hlive k2 b2 h2
    rw [hp k1 q1] at e1
    rw [hp k2 q2] at e2
    exact h.heap.apart _ _ c1 c2 sp1 sp2 (fun e => hne (inj _ _ m1 m2 e)) a1 a2 (by rw [r1.own]; exact ho) (fun v => nv (r2.void.2 v)) e1 e2
  · obtain ⟨b0, a0, r0, _, q⟩ := hlive k b hk
    rw [hp k q] at hsp
    exact h.owned _ b0 sp a0 (by rw [r0.own]; exact ho) hsp
  · obtain ⟨sp, p1, p2⟩ := h.pin k hk
    refine ⟨sp, p1, ?_⟩
    rw [hp k (by unfold keyB; rw [show Nat.blt k C.m = true from Nat.ble_eq_true_of_le hk]; rfl), sl k hk]; exact p2
theorem aw_r {C : Ctx} {P : Program} {Q : Exit → St → Prop} {c : Code} {S : St} (ren : List (Nat × Nat)) (T0 : List (Nat × Value)) (L0 : List (Nat × Blk)) (T : List (Nat × Value)) (L : List (Nat × Blk)) (h : AW C P c (mkSt C.m T L) Q)
    (rT : RenT (renS ren) (keyB C.m L) T T0) (rL : RenH (renS ren) (keyB C.m L) L L0) (hc : renChk C.m ren (L.map (·.1)) = true := by kernel_rfl) (hT : T0.map (fun x => S.T x.1) = T0.map (fun x => some x.2) := by kernel_rfl)
    (hL : L0.map (fun x => S.H x.1) = L0.map (fun x => .live x.2) := by kernel_rfl) : AW C P c S Q := aw_weak (weak_ren ren (allT_of hT) (allH_of hL) rT rL hc) h
section
variable {C : Ctx} {P : Program} {ops : Array Oper} {S : St} {i : Nat}
end
section
variable {C : Ctx} {P : Program} {ops : Array Oper} {S : St} {i : Nat}
/-- what an append looks at -/
def apyAt (P : Program) (ops : Array Oper) (S : St) (i : Nat) : Option (Nat × Nat × Nat × Option Value × Option Value) := match appAt P ops S i with
  | some (x, y, _, e, inf, _) => some (e, inf.size, inf.bytes, ev S x, ev S y)
  | none => none
end
end Go.Proofs.Ytndkhgfecnbmnaa.Am
namespace Go.Proofs.Ytndkhgfecnbmnaa.Am
open Go Go.RowKit
set_option linter.unusedVariables false
set_option linter.unusedSimpArgs false
section
variable {C : Ctx} {P : Program} {ops : Array Oper} {S : St} {i : Nat}
theorem does_append0 {x y : Operand} {t e : TypeId} {inf : TypeInfo} {zv : Value} {k n c k2 off2 c2 k' : Nat} {b : Blk} (hs : appAt P ops S i = some (x, y, t, e, inf, zv))
    (hx : ev S x = some (.slice (some ⟨k, 0, none⟩) n c)) (hy : ev S y = some (.slice (some ⟨k2, off2, none⟩) 0 c2)) (hH : S.H k = .live b) (hK : S.H k' = .fresh) (hn1 : 1 ≤ n)
    (hz : (b.own && Nat.beq b.elem e && Nat.beq b.step inf.size) = true) :
    Does C P ops i S ⟨[k, k2, k'], .slice (some ⟨k', 0, none⟩) n 0, [(k, .gone), (k', .live ⟨b.cells, e, true, inf.size⟩)]⟩ := by
  obtain ⟨hsh, hu, hi, hzv, hzs⟩ := appAt_spec hs
  refine .of_run hsh fun o ho S' ρ a w hT hH' hr => ?_
  simp only [Bool.and_eq_true] at hz
  obtain ⟨⟨b1, b2'⟩, b3⟩ := hz
  have eel := Nat.eq_of_beq_eq_true b2'
  have est := Nat.eq_of_beq_eq_true b3
  have hrx := ev_rel hr (by rw [hT x (by simp [Op.operands, Call.operands])]; exact hx)
  have hry := ev_rel hr (by rw [hT y (by simp [Op.operands, Call.operands])]; exact hy)
  generalize hax : a.eval x = ax at hrx
  generalize hay : a.eval y = ay at hry
  have hHk : S'.H k = .live b := by rw [hH' k (by simp)]; exact hH
  have hHf : S'.H k' = .fresh := by rw [hH' k' (by simp)]; exact hK
  cases hrx with
  | slice0 => omega
  | slice _ _ _ _ cap sp hk hc1 hs1 =>
    obtain ⟨q1, e1, e2⟩ := hr.heap.live k b hHk
    rw [hk] at e1; cases e1
    have e2' := e2
    rw [BlkOk.own b1] at e2'
    obtain ⟨st, cur, hg, hcs, hcl, hcc⟩ := e2'
    obtain ⟨hle, hm⟩ := Rel.move hr (k := k) (k' := k') (d := 0) (b := b) (b' := ⟨b.cells, e, true, inf.size⟩) hHk b1 hk hHf (by omega) rfl eel.symm est.symm (by show b.cells.length ≤ _; omega) (fun j u hu => by rw [Nat.zero_add]; exact hu)
    have key : ∀ (A : Option Addr) (c : Nat), (Builtin.append_ #[t, t] o.type #[.slice (some ⟨sp.block, sp.off + 0, none⟩) n cap, .slice A 0 c]).run P w = .ok (.slice (some ⟨sp.block, sp.off + 0, none⟩) n cap) w := by
      intro A c
      have hf : (Builtin.firstCells inf.size 0 (.slice A 0 c)).run P w = .ok #[] w := by
        cases A with
        | none => exact run_firstCells_none _ _ _ _ _
        | some A => exact run_firstCells_some (P := P) w inf.size 0 A 0 c [] (by simp) (by simp)
      simp [Builtin.append_, run_underlying hu, sizeOf, typeInfo, hi, Builtin.lenOf, hc1, hf, storeCells]
    have hval : VRel (upd ρ k' (some ⟨sp.block, sp.off + 0, sp.size - 0, sp.step⟩)) (.slice (some ⟨k', 0, none⟩) n 0) (.slice (some ⟨sp.block, sp.off + 0, none⟩) n cap) :=
      .slice k' 0 n 0 cap ⟨sp.block, sp.off + 0, sp.size - 0, sp.step⟩ (upd_self _ _ _) hc1 (by show 0 + cap * sp.step ≤ sp.size - 0; omega)
    cases hry with
    | slice0 _ _ _ A =>
      refine ⟨_, w, _, .slice (some ⟨sp.block, sp.off + 0, none⟩) n cap, ?_, .inl rfl, hval, hm⟩
      have ev1 : (#[x, y] : Array Operand).map a.eval = #[.slice (some ⟨sp.block, sp.off + 0, none⟩) n cap, .slice A 0 0] := by simp [hax, hay]
      simp only [execOp, ho, resolve, ev1, Sem.run_bind, Sem.run_pure, Result.andThen_ok, invoke, builtin, key]
    | slice _ _ _ _ cap2 sp2 hk2 hc2 hs2 =>
      refine ⟨_, w, _, .slice (some ⟨sp.block, sp.off + 0, none⟩) n cap, ?_, .inl rfl, hval, hm⟩
      have ev1 : (#[x, y] : Array Operand).map a.eval = #[.slice (some ⟨sp.block, sp.off + 0, none⟩) n cap, .slice (some ⟨sp2.block, sp2.off + off2, none⟩) 0 cap2] := by simp [hax, hay]
      simp only [execOp, ho, resolve, ev1, Sem.run_bind, Sem.run_pure, Result.andThen_ok, invoke, builtin, key]
end
end Go.Proofs.Ytndkhgfecnbmnaa.Am
namespace Go.Proofs.Ytndkhgfecnbmnaa.Am
open Go
set_option linter.unusedVariables false
set_option linter.unusedSimpArgs false
section
variable {C : Ctx} {P : Program} {ops : Array Oper} {S : St} {i : Nat}
def mkAt (P : Program) (ops : Array Oper) (S : St) (i : Nat) : Option (TypeId × Nat × Nat × Value × Option Value × Option Value) := match shapeAt ops S i with
  | some (.makeSlice t x y, true) => match sliceElem P t with
    | some e => match P.info? e with
      | some inf => match inf.zero with
        | some z => some (e, inf.size, inf.bytes, z, ev S x, ev S y)
        | none => none
      | none => none
    | none => none
  | _ => none
theorem does_mk (k e z bt : Nat) (n c : Nat) (zv : Value) (cells : List Value) {kl kc : IntKind} {n' c' : Int} (h1 : mkAt P ops S i = some (e, z, bt, zv, some (.int kl n'), some (.int kc c'))) (hk : S.H k = .fresh)
    (hf : cells.all flatB = true) (hc : (madeCells zv.cells (n * z)).toList = cells) (hn : n' = (n : Int)) (hc' : c' = (c : Int)) (hnc : n ≤ c) (hB : bt * c ≤ 140737488355328) (hM : c ≤ 4611686018427387904) :
    Does C P ops i S ⟨[k], .slice (some ⟨k, 0, none⟩) n 0, [(k, .live ⟨cells, e, true, z⟩)]⟩ := by
  subst hn hc'
  unfold mkAt at h1
  split at h1
  · rename_i t x y hs
    split at h1
    · rename_i e' he
      split at h1
      · rename_i inf hi
        split at h1
        · rename_i z' hz
          simp only [Option.some.injEq, Prod.mk.injEq] at h1
          obtain ⟨rfl, rfl, rfl, rfl, hx, hy⟩ := h1
          refine .of_run hs fun o ho S' ρ a w hT hH' hr => ?_
          have hu : P.underlying t = some (.slice e') := sliceElem_spec he
          have hrx := ev_rel hr (by rw [hT x (by simp [Op.operands])]; exact hx)
          have hry := ev_rel hr (by rw [hT y (by simp [Op.operands])]; exact hy)
          generalize hax : a.eval x = ax at hrx
          generalize hay : a.eval y = ay at hry
          cases hrx
          cases hry
          have hB2 : (inf.bytes : Int) * (c : Int) ≤ 281474976710656 := by
            rw [← Int.natCast_mul]; omega
          have hrun := run_make (P := P) w t e' inf z' hu hi hz kl kc (n : Int) (c : Int) (by omega) (by omega) hB2 (by omega)
          rw [Int.toNat_natCast, Int.toNat_natCast] at hrun
          have hle : n * inf.size ≤ c * inf.size := Nat.mul_le_mul_right _ hnc
          subst hc
          obtain ⟨hfr, hrel⟩ := Rel.new hr (by rw [hH' k (by simp)]; exact hk) (cells := (madeCells z'.cells (n * inf.size)).toList) (c := madeCells z'.cells (c * inf.size)) (e := e') (st := inf.size) (by rw [Array.length_toList, size_madeCells, size_madeCells]; exact hle)
            (fun j u hu => by
              have hj := (List.getElem?_eq_some_iff.1 hu).1
              rw [Array.length_toList, size_madeCells] at hj
              have hfl := only_flat (p := fun _ => False) (List.all_eq_true.1 hf u (List.mem_of_getElem? hu))
              refine ⟨u, ?_, .of_only (only_flat (List.all_eq_true.1 hf u (List.mem_of_getElem? hu)))⟩
              rw [Array.getElem?_toList] at hu
              unfold madeCells at hu ⊢
              rw [Array.getElem?_map, Array.getElem?_range] at hu ⊢
              rw [if_pos hj] at hu
              rw [if_pos (by omega)]
              exact hu)
          refine ⟨_, _, _, .slice (some ⟨w.heap.size, 0, none⟩) n c, ?_, .inl rfl, ?_, hrel⟩
          · simp only [execOp, ho, hax, hay, hrun, Sem.run_bind, Sem.run_pure, Result.andThen_ok]
          · refine .slice k 0 n 0 c _ (upd_self _ _ _) hnc ?_
            show 0 + c * inf.size ≤ (madeCells z'.cells (c * inf.size)).size
            rw [size_madeCells]; omega
        · cases h1
      · cases h1
    · cases h1
  · cases h1
end
end Go.Proofs.Ytndkhgfecnbmnaa.Am

set_option linter.unusedVariables false
set_option linter.unusedSimpArgs false
namespace Go.Proofs.Ytndkhgfecnbmnaa.Am.Sp
open Go
theorem getD_mem {ps : List (Int × Int)} {q : Int × Int} (h : q ∈ ps) : ∃ i, ps.getD i (0, 0) = q := by
  obtain ⟨i, hi, e⟩ := List.mem_iff_getElem.1 h
  exact ⟨i, by rw [getD_lt hi, e]⟩
theorem getD_map {f : Int × Int → Int × Int} {ps : List (Int × Int)} {i : Nat} (h : i < ps.length) : (ps.map f).getD i (0, 0) = f (ps.getD i (0, 0)) := by
  rw [getD_lt (by simpa using h), getD_lt h, List.getElem_map]
/-- all coordinates are small -/
def Few (m : Int) (ps : List (Int × Int)) : Prop := ∀ i, (-m ≤ (ps.getD i (0, 0)).1 ∧ (ps.getD i (0, 0)).1 ≤ m) ∧ (-m ≤ (ps.getD i (0, 0)).2 ∧ (ps.getD i (0, 0)).2 ≤ m)
theorem few_of {m : Int} {ps : List (Int × Int)} (hm : 0 ≤ m) (h : ∀ q ∈ ps, (-m ≤ q.1 ∧ q.1 ≤ m) ∧ (-m ≤ q.2 ∧ q.2 ≤ m)) : Few m ps := by
  intro i
  by_cases hi : i < ps.length
  · rw [getD_lt hi]; exact h _ (List.getElem_mem hi)
  · simp [List.getD, List.getElem?_eq_none (Nat.le_of_not_lt hi)]; omega
theorem few_mem {m : Int} {ps : List (Int × Int)} (h : Few m ps) {q : Int × Int} (hq : q ∈ ps) : (-m ≤ q.1 ∧ q.1 ≤ m) ∧ (-m ≤ q.2 ∧ q.2 ≤ m) := by
  obtain ⟨i, e⟩ := getD_mem hq
  rw [← e]; exact h i
theorem on_start (a b c d : Int) : onb a b c d a b = true := by
  rw [onb_iff]; constructor
  · unfold crs; grind
  · unfold dot; simp
/-- twice the area, as the code adds it up: from the corner k on -/
def twF (ps : List (Int × Int)) (k : Nat) (s : Int) : Int :=
  if k + 1 < ps.length then twF ps (k + 1) (IntKind.wrap .i64 (s + crs (cA ps 0) (cB ps 0) (cA ps k) (cB ps k) (cA ps (k + 1)) (cB ps (k + 1)))) else s
termination_by ps.length - k
theorem twF_end {ps : List (Int × Int)} {k : Nat} {s : Int} (h : ¬ k + 1 < ps.length) : twF ps k s = s := by rw [twF, if_neg h]
theorem twF_step {ps : List (Int × Int)} {k : Nat} {s : Int} (h : k + 1 < ps.length) : twF ps (k + 1) (IntKind.wrap .i64 (s + crs (cA ps 0) (cB ps 0) (cA ps k) (cB ps k) (cA ps (k + 1)) (cB ps (k + 1)))) = twF ps k s := by
  conv => rhs; rw [twF, if_pos h]
end Go.Proofs.Ytndkhgfecnbmnaa.Am.Sp

set_option linter.unusedVariables false
set_option linter.unusedSimpArgs false
namespace Go.Proofs.Ytndkhgfecnbmnaa.Am.Sp
def has2 (l : List (Int × Int)) (px py : Int) : Bool := l.any (fun z => z.1 == px && (z.2 == py && true))
def addb (l : List (Int × Int)) (px py qx qy rx ry : Int) : Bool := onb qx qy rx ry px py && !(has2 l px py)
def addp (l : List (Int × Int)) (px py qx qy rx ry : Int) : List (Int × Int) := if addb l px py qx qy rx ry = true then l ++ [(px, py)] else l
/-- the ends of two segments that are on both -/
def shr (ax ay bx b_y cx cy dx dy : Int) : List (Int × Int) :=
  addp (addp (addp (addp [] ax ay cx cy dx dy) bx b_y cx cy dx dy) cx cy ax ay bx b_y) dx dy ax ay bx b_y
/-- two segments cross between their ends -/
def prp (ax ay bx b_y cx cy dx dy : Int) : Bool :=
  decide (cmp (crs ax ay bx b_y cx cy) 0 * cmp (crs ax ay bx b_y dx dy) 0 < 0) && decide (cmp (crs cx cy dx dy ax ay) 0 * cmp (crs cx cy dx dy bx b_y) 0 < 0)
def meetN (ax ay bx b_y cx cy dx dy : Int) : Int :=
  if prp ax ay bx b_y cx cy dx dy = true then 1 else mn 2 ((shr ax ay bx b_y cx cy dx dy).length : Int)
theorem addp_y {l px py qx qy rx ry} (h : addb l px py qx qy rx ry = true) : addp l px py qx qy rx ry = l ++ [(px, py)] := by unfold addp; rw [if_pos h]
theorem addp_n {l px py qx qy rx ry} (h : addb l px py qx qy rx ry = false) : addp l px py qx qy rx ry = l := by unfold addp; rw [if_neg (by rw [h]; decide)]
theorem has2_iff (l : List (Int × Int)) (px py : Int) : has2 l px py = true ↔ (px, py) ∈ l := by
  unfold has2
  rw [List.any_eq_true]
  constructor
  · rintro ⟨⟨x, y⟩, hm, h⟩
    simp only [Bool.and_true, Bool.and_eq_true, beq_iff_eq] at h
    obtain ⟨rfl, rfl⟩ := h; exact hm
  · intro h; exact ⟨_, h, by simp⟩
theorem mem_addp {l : List (Int × Int)} {px py qx qy rx ry : Int} {z : Int × Int} : z ∈ addp l px py qx qy rx ry ↔ z ∈ l ∨ (z = (px, py) ∧ onb qx qy rx ry px py = true) := by
  unfold addp addb
  cases h1 : onb qx qy rx ry px py <;> cases h2 : has2 l px py <;> simp
  rw [has2_iff] at h2
  intro h; rw [h]; exact h2
theorem nodup_addp {l : List (Int × Int)} {px py qx qy rx ry : Int} (h : l.Nodup) : (addp l px py qx qy rx ry).Nodup := by
  unfold addp
  split
  · next hb =>
    rw [List.nodup_append]
    refine ⟨h, by simp, ?_⟩
    intro a ha b hb' e
    unfold addb at hb
    simp only [List.mem_singleton] at hb'
    subst hb'; subst e
    rw [(has2_iff ..).2 ha] at hb; simp at hb
  · exact h
theorem mem_shr {ax ay bx b_y cx cy dx dy : Int} {z : Int × Int} : z ∈ shr ax ay bx b_y cx cy dx dy ↔
    (z = (ax, ay) ∧ onb cx cy dx dy ax ay = true) ∨ (z = (bx, b_y) ∧ onb cx cy dx dy bx b_y = true) ∨ (z = (cx, cy) ∧ onb ax ay bx b_y cx cy = true) ∨ (z = (dx, dy) ∧ onb ax ay bx b_y dx dy = true) := by
  unfold shr; simp only [mem_addp]; simp [or_assoc]
theorem nodup_shr (ax ay bx b_y cx cy dx dy : Int) : (shr ax ay bx b_y cx cy dx dy).Nodup := by
  unfold shr; exact nodup_addp (nodup_addp (nodup_addp (nodup_addp List.nodup_nil)))
theorem sgn_mul_le (x y : Int) : sgn x * sgn y ≤ 0 ↔ x * y ≤ 0 := by
  unfold sgn
  rcases Int.lt_trichotomy x 0 with h | h | h <;> rcases Int.lt_trichotomy y 0 with k | k | k
  · have := Int.mul_pos_of_neg_of_neg h k; simp [h, k]; omega
  · subst k; simp
  · have := Int.mul_neg_of_neg_of_pos h k; simp [h, k, show ¬ y < 0 by omega]; omega
  · subst h; simp
  · subst h; simp
  · subst h; simp
  · have := Int.mul_neg_of_pos_of_neg h k; simp [h, k, show ¬ x < 0 by omega]; omega
  · subst k; simp
  · have := Int.mul_pos h k; simp [h, k, show ¬ x < 0 by omega, show ¬ y < 0 by omega]; omega
theorem sgn_mul_lt (x y : Int) : sgn x * sgn y < 0 ↔ x * y < 0 := by
  unfold sgn
  rcases Int.lt_trichotomy x 0 with h | h | h <;> rcases Int.lt_trichotomy y 0 with k | k | k
  · have := Int.mul_pos_of_neg_of_neg h k; simp [h, k]; omega
  · subst k; simp
  · have := Int.mul_neg_of_neg_of_pos h k; simp [h, k, show ¬ y < 0 by omega]; omega
  · subst h; simp
  · subst h; simp
  · subst h; simp
  · have := Int.mul_neg_of_pos_of_neg h k; simp [h, k, show ¬ x < 0 by omega]; omega
  · subst k; simp
  · have := Int.mul_pos h k; simp [h, k, show ¬ x < 0 by omega, show ¬ y < 0 by omega]; omega
theorem cmp_mul_lt (x y : Int) : cmp x 0 * cmp y 0 < 0 ↔ x * y < 0 := by
  have e : ∀ z, cmp z 0 = sgn z := fun z => by unfold cmp sgn; (repeat' split) <;> omega
  rw [e, e, sgn_mul_lt]
theorem prp_iff (ax ay bx b_y cx cy dx dy : Int) : prp ax ay bx b_y cx cy dx dy = true ↔ crs ax ay bx b_y cx cy * crs ax ay bx b_y dx dy < 0 ∧ crs cx cy dx dy ax ay * crs cx cy dx dy bx b_y < 0 := by
  unfold prp; rw [Bool.and_eq_true, decide_eq_true_eq, decide_eq_true_eq, cmp_mul_lt, cmp_mul_lt]
end Go.Proofs.Ytndkhgfecnbmnaa.Am.Sp

set_option linter.unusedVariables false
set_option linter.unusedSimpArgs false
namespace Go.Proofs.Ytndkhgfecnbmnaa.Am.Sp
open Go
/-- positive if the point (in halves) is above the line -/
def sideD (ax ay bx b_y x y : Int) : Int := (bx - ax) * (y - 2 * ay) - (b_y - ay) * (x - 2 * ax)
variable {ax ay bx b_y x y : Int}
theorem wr_add (a b : Int) : IntKind.wrap .i64 (IntKind.wrap .i64 a + b) = IntKind.wrap .i64 (a + b) := by
  rw [IntKind.wrap_i64, IntKind.wrap_i64, IntKind.wrap_i64]; omega
def trp (ps : List (Int × Int)) (i j : Nat) : Int := (cA ps i - cA ps j) * (cB ps i + cB ps j)
def dblF (ps : List (Int × Int)) (i : Nat) (s : Int) : Int := if i < ps.length then dblF ps (i + 1) (IntKind.wrap .i64 (s + trp ps i ((i + 1) % ps.length))) else s
termination_by ps.length - i
theorem dblF_end {ps : List (Int × Int)} {i : Nat} {s : Int} (h : ¬ i < ps.length) : dblF ps i s = s := by rw [dblF, if_neg h]
def dblE (ps : List (Int × Int)) (i : Nat) : Int := if i < ps.length then trp ps i ((i + 1) % ps.length) + dblE ps (i + 1) else 0
termination_by ps.length - i
def twE (ps : List (Int × Int)) (k : Nat) : Int := if k + 1 < ps.length then crs (cA ps 0) (cB ps 0) (cA ps k) (cB ps k) (cA ps (k + 1)) (cB ps (k + 1)) + twE ps (k + 1) else 0
termination_by ps.length - k
theorem dblF_E (ps : List (Int × Int)) : ∀ (m i : Nat) (s : Int), i + m = ps.length → dblF ps i (IntKind.wrap .i64 s) = IntKind.wrap .i64 (s + dblE ps i)
  | 0, i, s, h => by rw [dblF_end (by omega), dblE, if_neg (by omega), Int.add_zero]
  | m + 1, i, s, h => by
    rw [dblF, if_pos (by omega), wr_add, dblF_E ps m (i + 1) _ (by omega)]
    conv => rhs; rw [dblE, if_pos (by omega)]
    rw [Int.add_assoc]
theorem twF_E (ps : List (Int × Int)) : ∀ (m k : Nat) (s : Int), ps.length ≤ k + m → twF ps k (IntKind.wrap .i64 s) = IntKind.wrap .i64 (s + twE ps k)
  | 0, k, s, h => by rw [twF_end (by omega), twE, if_neg (by omega), Int.add_zero]
  | m + 1, k, s, h => by
    by_cases hk : k + 1 < ps.length
    · rw [twF, if_pos hk, wr_add, twF_E ps m (k + 1) _ (by omega)]
      conv => rhs; rw [twE, if_pos hk]
      rw [Int.add_assoc]
    · rw [twF_end hk, twE, if_neg hk, Int.add_zero]
theorem dbl_tw (ps : List (Int × Int)) : ∀ (m k : Nat), k + m + 1 = ps.length → dblE ps k = (if k = 0 then 0 else trp ps k 0) + twE ps (if k = 0 then 1 else k) - (if k = 0 then 0 else 0) := by
  have main : ∀ (m k : Nat), 1 ≤ k → k + m + 1 = ps.length → dblE ps k = trp ps k 0 + twE ps k := by
    intro m
    induction m with
    | zero =>
      intro k h1 h
      rw [dblE, if_pos (by omega), dblE, if_neg (by omega), twE, if_neg (by omega), show k + 1 = ps.length by omega, Nat.mod_self]
    | succ m ih =>
      intro k h1 h
      rw [dblE, if_pos (by omega), ih (k + 1) (by omega) (by omega), Nat.mod_eq_of_lt (by omega)]
      conv => rhs; rw [twE, if_pos (by omega)]
      unfold trp crs; grind
  intro m k h
  by_cases hk : k = 0
  · subst hk
    simp only [if_true]
    cases m with
    | zero => rw [dblE, if_pos (by omega), dblE, if_neg (by omega), twE, if_neg (by omega), show 0 + 1 = ps.length by omega, Nat.mod_self]; unfold trp; simp
    | succ m =>
      rw [dblE, if_pos (by omega), main m (0 + 1) (by omega) (by omega), Nat.mod_eq_of_lt (by omega)]
      unfold trp; grind
  · rw [if_neg hk, if_neg hk, if_neg hk, main m k (by omega) h]; omega
theorem dblF_twF (ps : List (Int × Int)) : dblF ps 0 0 = twF ps 1 0 := by
  have z : IntKind.wrap .i64 0 = 0 := by rw [IntKind.wrap_i64]; omega
  have a := dblF_E ps ps.length 0 0 (by omega)
  have b := twF_E ps ps.length 1 0 (by omega)
  rw [z] at a b
  rw [a, b]
  cases h : ps.length with
  | zero => rw [dblE, if_neg (by omega), twE, if_neg (by omega)]
  | succ n =>
    have := dbl_tw ps n 0 (by omega)
    simp only [if_true] at this
    rw [this]; congr 1; omega
end Go.Proofs.Ytndkhgfecnbmnaa.Am.Sp
set_option linter.unusedVariables false
set_option linter.unusedSimpArgs false
namespace Go.Proofs.Ytndkhgfecnbmnaa.Am.Sp
open Go
abbrev gx (ps : List (Int × Int)) (i : Nat) : Int := (ps.getD i (0, 0)).1
abbrev gy (ps : List (Int × Int)) (i : Nat) : Int := (ps.getD i (0, 0)).2
/-- the first place whose point is such a one -/
def ixF (f : Int × Int → Bool) (ps : List (Int × Int)) (i : Nat) : Int := if i < ps.length then (if f (ps.getD i (0, 0)) = true then ((i : Nat) : Int) else ixF f ps (i + 1)) else -1
termination_by ps.length - i
theorem ixF_end {f : Int × Int → Bool} {ps : List (Int × Int)} {i : Nat} (h : ¬ i < ps.length) : ixF f ps i = -1 := by rw [ixF, if_neg h]
theorem ixF_yes {f : Int × Int → Bool} {ps : List (Int × Int)} {i : Nat} (h : i < ps.length) (hf : f (ps.getD i (0, 0)) = true) : ixF f ps i = ((i : Nat) : Int) := by rw [ixF, if_pos h, if_pos hf]
theorem ixF_no {f : Int × Int → Bool} {ps : List (Int × Int)} {i : Nat} (h : i < ps.length) (hf : f (ps.getD i (0, 0)) = false) : ixF f ps (i + 1) = ixF f ps i := by
  conv => rhs; rw [ixF, if_pos h, if_neg (by rw [hf]; decide)]
theorem ixF_bd (f : Int × Int → Bool) (ps : List (Int × Int)) : ∀ (m i : Nat), i + m = ps.length → (ixF f ps i = -1 ∧ (ps.drop i).any f = false) ∨ (∃ j, i ≤ j ∧ j < ps.length ∧ ixF f ps i = ((j : Nat) : Int) ∧ f (ps.getD j (0, 0)) = true ∧ (ps.drop i).any f = true ∧ ∀ q, i ≤ q → q < j → f (ps.getD q (0, 0)) = false)
  | 0, i, h => .inl ⟨ixF_end (by omega), by rw [List.drop_of_length_le (by omega)]; rfl⟩
  | m + 1, i, h => by
    have hl : i < ps.length := by omega
    have hd : ps.drop i = ps.getD i (0, 0) :: ps.drop (i + 1) := by rw [List.drop_eq_getElem_cons hl, getD_lt hl]
    rcases Bool.eq_false_or_eq_true (f (ps.getD i (0, 0))) with hf | hf
    · exact .inr ⟨i, Nat.le_refl _, hl, ixF_yes hl hf, hf, by rw [hd, List.any_cons, hf]; rfl, fun q h1 h2 => by omega⟩
    · rcases ixF_bd f ps m (i + 1) (by omega) with ⟨h1, h2⟩ | ⟨j, h1, h2, h3, h4, h5, h6⟩
      · exact .inl ⟨by rw [← ixF_no hl hf]; exact h1, by rw [hd, List.any_cons, hf, h2]; rfl⟩
      · refine .inr ⟨j, by omega, h2, by rw [← ixF_no hl hf]; exact h3, h4, by rw [hd, List.any_cons, h5, Bool.or_true], fun q q1 q2 => ?_⟩
        rcases Nat.eq_or_lt_of_le q1 with rfl | q1
        · exact hf
        · exact h6 q q1 q2
theorem ixF_any (f : Int × Int → Bool) (ps : List (Int × Int)) : decide (ixF f ps 0 ≥ 0) = ps.any f := by
  rcases ixF_bd f ps ps.length 0 (by omega) with ⟨h1, h2⟩ | ⟨j, _, _, h3, _, h5, _⟩
  · rw [h1]; rw [List.drop_zero] at h2; rw [h2]; rfl
  · rw [h3]; rw [List.drop_zero] at h5; rw [h5]; exact decide_eq_true (by omega)
def nok (q : Int × Int) : Bool := !(okb q.1 q.2)
def eqP (ps : List (Int × Int)) (k k2 : Nat) : Bool := (gx ps k == gx ps k2) && ((gy ps k == gy ps k2) && true)
def mnE (ps : List (Int × Int)) (k k2 i i2 : Nat) : Int := meetN (cA ps k) (cB ps k) (cA ps k2) (cB ps k2) (cA ps i) (cB ps i) (cA ps i2) (cB ps i2)
/-- two edges, k ahead of i, have only those corners in common that they must have -/
def apF (ps : List (Int × Int)) (k k2 i i2 : Nat) : Bool :=
  if eqP ps k k2 = true then false else if eqP ps i i2 = true then false else if ((k : Nat) : Int) + 1 == ((i : Nat) : Int) then mnE ps k k2 i i2 == 1 else if ((i2 : Nat) : Int) == ((k : Nat) : Int) then mnE ps k k2 i i2 == 1 else mnE ps k k2 i i2 == 0
section
variable {ps : List (Int × Int)} {k k2 i i2 : Nat}
theorem apF_1 (h : eqP ps k k2 = true) : apF ps k k2 i i2 = false := if_pos h
theorem apF_2 (h1 : eqP ps k k2 = false) (h : eqP ps i i2 = true) : apF ps k k2 i i2 = false := by unfold apF; rw [if_neg (by rw [h1]; decide), if_pos h]
theorem apF_3 (h1 : eqP ps k k2 = false) (h2 : eqP ps i i2 = false) (h : (((k : Nat) : Int) + 1 == ((i : Nat) : Int)) = true) : apF ps k k2 i i2 = (mnE ps k k2 i i2 == 1) := by unfold apF; rw [if_neg (by rw [h1]; decide), if_neg (by rw [h2]; decide), if_pos h]
theorem apF_4 (h1 : eqP ps k k2 = false) (h2 : eqP ps i i2 = false) (h3 : (((k : Nat) : Int) + 1 == ((i : Nat) : Int)) = false) (h : (((i2 : Nat) : Int) == ((k : Nat) : Int)) = true) : apF ps k k2 i i2 = (mnE ps k k2 i i2 == 1) := by unfold apF; rw [if_neg (by rw [h1]; decide), if_neg (by rw [h2]; decide), if_neg (by rw [h3]; decide), if_pos h]
theorem apF_5 (h1 : eqP ps k k2 = false) (h2 : eqP ps i i2 = false) (h3 : (((k : Nat) : Int) + 1 == ((i : Nat) : Int)) = false) (h : (((i2 : Nat) : Int) == ((k : Nat) : Int)) = false) : apF ps k k2 i i2 = (mnE ps k k2 i i2 == 0) := by unfold apF; rw [if_neg (by rw [h1]; decide), if_neg (by rw [h2]; decide), if_neg (by rw [h3]; decide), if_neg (by rw [h]; decide)]
end
def apE (ps : List (Int × Int)) (k i : Nat) : Bool := apF ps k ((k + 1) % ps.length) i ((i + 1) % ps.length)
def apRow (ps : List (Int × Int)) (i k : Nat) : Bool := (List.range k).all fun q => apE ps q i
def allap (ps : List (Int × Int)) (i : Nat) : Bool := (List.range i).all fun q => apRow ps q q
theorem all_snoc {f : Nat → Bool} {k : Nat} : (List.range (k + 1)).all f = ((List.range k).all f && f k) := by rw [List.range_succ, List.all_append]; simp
theorem all_at {f : Nat → Bool} {n k : Nat} (h : (List.range n).all f = true) (hk : k < n) : f k = true := List.all_eq_true.1 h k (List.mem_range.2 hk)
theorem all_off {f : Nat → Bool} {n k : Nat} (hk : k < n) (h : f k = false) : (List.range n).all f = false := by
  rcases Bool.eq_false_or_eq_true ((List.range n).all f) with q | q
  · rw [all_at q hk] at h; cases h
  · exact q
theorem apRow_next {ps : List (Int × Int)} {i k k2 i2 : Nat} (h : apRow ps i k = true) (hk : (k + 1) % ps.length = k2) (hi : (i + 1) % ps.length = i2) (q : (!(apF ps k k2 i i2)) = false) : apRow ps i (k + 1) = true := by
  unfold apRow at *; rw [all_snoc, h]; subst hk hi; unfold apE; simpa using q
theorem allap_next {ps : List (Int × Int)} {i k : Nat} (h : allap ps i = true) (hk : k = i) (q : apRow ps i k = true) : allap ps (i + 1) = true := by
  subst hk; unfold allap at *; rw [all_snoc, h]; simpa using q
theorem allap_no {ps : List (Int × Int)} {i k k2 i2 : Nat} (hi : i < ps.length) (hk : k < i) (h2 : (k + 1) % ps.length = k2) (h3 : (i + 1) % ps.length = i2) (q : (!(apF ps k k2 i i2)) = true) : allap ps ps.length = false :=
  all_off hi (all_off hk (by subst h2 h3; unfold apE; simpa using q))
def chkF (ps : List (Int × Int)) : Int := if decide (((ps.length : Nat) : Int) > 200) = true then 2 else if decide (((ps.length : Nat) : Int) < 3) = true then 3 else if ps.any nok = true then 1 else if allap ps ps.length = true then 0 else 10
section
variable {ps : List (Int × Int)}
theorem chk_2 (h : decide (((ps.length : Nat) : Int) > 200) = true) : chkF ps = 2 := if_pos h
theorem chk_3 (h1 : decide (((ps.length : Nat) : Int) > 200) = false) (h : decide (((ps.length : Nat) : Int) < 3) = true) : chkF ps = 3 := by unfold chkF; rw [if_neg (by rw [h1]; decide), if_pos h]
theorem chk_1 (h1 : decide (((ps.length : Nat) : Int) > 200) = false) (h2 : decide (((ps.length : Nat) : Int) < 3) = false) (h : ps.any nok = true) : chkF ps = 1 := by unfold chkF; rw [if_neg (by rw [h1]; decide), if_neg (by rw [h2]; decide), if_pos h]
theorem chk_10 (h1 : decide (((ps.length : Nat) : Int) > 200) = false) (h2 : decide (((ps.length : Nat) : Int) < 3) = false) (h3 : ps.any nok = false) (h : allap ps ps.length = false) : chkF ps = 10 := by unfold chkF; rw [if_neg (by rw [h1]; decide), if_neg (by rw [h2]; decide), if_neg (by rw [h3]; decide), if_neg (by rw [h]; decide)]
theorem chk_0 {i : Nat} (h1 : decide (((ps.length : Nat) : Int) > 200) = false) (h2 : decide (((ps.length : Nat) : Int) < 3) = false) (h3 : ps.any nok = false) (hi : i = ps.length) (h : allap ps i = true) : chkF ps = 0 := by subst hi; unfold chkF; rw [if_neg (by rw [h1]; decide), if_neg (by rw [h2]; decide), if_neg (by rw [h3]; decide), if_pos h]
end
def wantN (n i k : Nat) : Int := if k = i + 1 ∨ (i = 0 ∧ k + 1 = n) then 1 else 0
def rgRow (ps : List (Int × Int)) (i k : Nat) : Bool := (List.range k).all fun q => bif Nat.ble (i + 1) q then mnE ps i ((i + 1) % ps.length) q ((q + 1) % ps.length) == wantN ps.length i q else true
def allrg (ps : List (Int × Int)) (i : Nat) : Bool := (List.range i).all fun q => !(eqP ps q ((q + 1) % ps.length)) && rgRow ps q ps.length
theorem rg_ap {ps : List (Int × Int)} (hn : 3 ≤ ps.length) : allrg ps ps.length = allap ps ps.length := by
  have ap : ∀ k i, k < i → i < ps.length → (apE ps k i = true ↔ eqP ps k ((k + 1) % ps.length) = false ∧ eqP ps i ((i + 1) % ps.length) = false ∧ mnE ps k ((k + 1) % ps.length) i ((i + 1) % ps.length) = wantN ps.length k i) := by
    intro k i hk hi
    have hi2 : (i + 1) % ps.length = if i + 1 = ps.length then 0 else i + 1 := by
      split
      · rename_i h; rw [h, Nat.mod_self]
      · exact Nat.mod_eq_of_lt (by omega)
    unfold apE apF wantN
    generalize mnE ps k ((k + 1) % ps.length) i ((i + 1) % ps.length) = M
    generalize eqP ps k ((k + 1) % ps.length) = E1
    generalize eqP ps i ((i + 1) % ps.length) = E2
    rw [hi2]
    cases E1 <;> cases E2 <;> simp
    by_cases h1 : k + 1 = i
    · rw [if_pos (by omega), if_pos (.inl h1.symm)]
    · rw [if_neg (by omega)]
      by_cases h2 : k = 0 ∧ i + 1 = ps.length
      · rw [if_pos (by rw [if_pos h2.2, h2.1]), if_pos (.inr h2)]
      · rw [if_neg (by split <;> omega), if_neg (by omega)]
  rw [Bool.eq_iff_iff]
  unfold allrg allap apRow rgRow
  simp only [List.all_eq_true, List.mem_range, Bool.and_eq_true, Bool.not_eq_true']
  constructor
  · intro h i hi k hk
    refine (ap k i hk hi).2 ⟨(h k (by omega)).1, (h i hi).1, ?_⟩
    have := (h k (by omega)).2 i hi
    rw [Nat.ble_eq_true_of_le (show k + 1 ≤ i by omega)] at this
    simpa using this
  · intro h i hi
    have he : ∀ a b, a < b → b < ps.length → eqP ps a ((a + 1) % ps.length) = false ∧ eqP ps b ((b + 1) % ps.length) = false := fun a b hab hb => ⟨((ap a b hab hb).1 (h b hb a hab)).1, ((ap a b hab hb).1 (h b hb a hab)).2.1⟩
    refine ⟨?_, fun k hk => ?_⟩
    · rcases Nat.eq_zero_or_pos i with rfl | hp
      · exact (he 0 1 (by omega) (by omega)).1
      · exact (he 0 i hp hi).2
    · rcases Bool.eq_false_or_eq_true (Nat.ble (i + 1) k) with hb | hb
      · rw [hb]
        have hik : i < k := Nat.le_of_ble_eq_true hb
        have := ((ap i k hik hk).1 (h k hk i hik)).2.2
        simpa using this
      · rw [hb]; rfl
end Go.Proofs.Ytndkhgfecnbmnaa.Am.Sp
set_option linter.unusedVariables false
set_option linter.unusedSimpArgs false
namespace Go.Proofs.Ytndkhgfecnbmnaa.Am.Sp
open Go
theorem ext_getD {a b : List (Int × Int)} (hl : a.length = b.length) (h : ∀ i, i < a.length → a.getD i (0, 0) = b.getD i (0, 0)) : a = b := by
  refine List.ext_getElem hl fun i h1 h2 => ?_
  have := h i h1
  rwa [getD_lt h1, getD_lt h2] at this
/-- the first i pairs from both ends are exchanged -/
def rvl (ps : List (Int × Int)) (i : Nat) : List (Int × Int) := (List.range ps.length).map fun q => if q < i ∨ ps.length ≤ q + i then ps.getD (ps.length - 1 - q) (0, 0) else ps.getD q (0, 0)
theorem rvl_len (ps : List (Int × Int)) (i : Nat) : (rvl ps i).length = ps.length := by simp [rvl]
theorem rvl_at {ps : List (Int × Int)} {i q : Nat} (h : q < ps.length) : (rvl ps i).getD q (0, 0) = if q < i ∨ ps.length ≤ q + i then ps.getD (ps.length - 1 - q) (0, 0) else ps.getD q (0, 0) := by
  rw [getD_lt (by rw [rvl_len]; exact h)]; simp [rvl]
theorem rvl_0 (ps : List (Int × Int)) : rvl ps 0 = ps := by
  refine ext_getD (rvl_len ps 0) fun i hi => ?_
  rw [rvl_len] at hi
  rw [rvl_at hi, if_neg (by omega)]
theorem set_at {l : List (Int × Int)} {i j : Nat} {v : Int × Int} (h : j < l.length) : (l.set i v).getD j (0, 0) = if i = j then v else l.getD j (0, 0) := by
  rw [getD_lt (by simpa using h), getD_lt h, List.getElem_set]
theorem rvl_next {ps : List (Int × Int)} {i j : Nat} (hj : i + j + 1 = ps.length) (hl : i < j) : ((rvl ps i).set i ((rvl ps i).getD j (0, 0))).set j ((rvl ps i).getD i (0, 0)) = rvl ps (i + 1) := by
  refine ext_getD (by simp [rvl_len]) fun q hq => ?_
  have hq' : q < ps.length := by simpa [rvl_len] using hq
  rw [set_at (by simpa [rvl_len] using hq'), set_at (by rw [rvl_len]; exact hq'), rvl_at hq', rvl_at (by omega), rvl_at (by omega), rvl_at hq']
  by_cases h1 : j = q
  · subst h1
    rw [if_pos rfl, if_neg (by omega), if_pos (by omega)]
    congr 1; omega
  · rw [if_neg h1]
    by_cases h2 : i = q
    · subst h2
      rw [if_pos rfl, if_neg (by omega), if_pos (by omega)]
      congr 1; omega
    · rw [if_neg h2]
      by_cases h3 : q < i ∨ ps.length ≤ q + i
      · rw [if_pos h3, if_pos (by omega)]
      · rw [if_neg h3, if_neg (by omega)]
theorem rev_at {ps : List (Int × Int)} {q : Nat} (h : q < ps.length) : ps.reverse.getD q (0, 0) = ps.getD (ps.length - 1 - q) (0, 0) := by
  rw [getD_lt (by simpa using h), List.getElem_reverse, getD_lt (by omega)]
theorem rvl_end {ps : List (Int × Int)} {i j : Nat} (hj : i + j + 1 = ps.length) (hl : ¬ i < j) : rvl ps i = ps.reverse := by
  refine ext_getD (by simp [rvl_len]) fun q hq => ?_
  have hq' : q < ps.length := by simpa [rvl_len] using hq
  rw [rvl_at hq', rev_at hq']
  split
  · rfl
  · congr 1; omega
/-- a point ahead of another one -/
def befP (a b : Int × Int) : Bool := decide (pcmp a.1 a.2 b.1 b.2 < 0)
theorem befP_iff (a b : Int × Int) : befP a b = true ↔ a.1 < b.1 ∨ (a.1 = b.1 ∧ a.2 < b.2) := by
  unfold befP; rw [pcmp_form, decide_eq_true_iff]; (repeat' split) <;> omega
/-- the least of the first i points -/
def mnP (ps : List (Int × Int)) : Nat → Int × Int
  | 0 => ps.getD 0 (0, 0)
  | i + 1 => if befP (ps.getD (i + 1) (0, 0)) (mnP ps i) = true then ps.getD (i + 1) (0, 0) else mnP ps i
theorem mnP_y {ps : List (Int × Int)} {i : Nat} {a b : Int} (ha : a = (mnP ps i).1) (hb : b = (mnP ps i).2) (h : decide (pcmp (ps.getD (i + 1) (0, 0)).1 (ps.getD (i + 1) (0, 0)).2 a b < 0) = true) : ps.getD (i + 1) (0, 0) = mnP ps (i + 1) := by
  subst ha hb; exact (if_pos h).symm
theorem mnP_n {ps : List (Int × Int)} {i : Nat} {a b : Int} (ha : a = (mnP ps i).1) (hb : b = (mnP ps i).2) (h : decide (pcmp (ps.getD (i + 1) (0, 0)).1 (ps.getD (i + 1) (0, 0)).2 a b < 0) = false) : (a, b) = mnP ps (i + 1) := by
  subst ha hb; exact (if_neg (by unfold befP; rw [h]; decide)).symm
theorem mnP_spec (ps : List (Int × Int)) : ∀ i, (∃ j, j ≤ i ∧ mnP ps i = ps.getD j (0, 0)) ∧ ∀ j, j ≤ i → befP (ps.getD j (0, 0)) (mnP ps i) = false
  | 0 => ⟨⟨0, Nat.le_refl 0, rfl⟩, fun j hj => by
      rw [show j = 0 by omega]
      rcases Bool.eq_false_or_eq_true (befP (ps.getD 0 (0, 0)) (mnP ps 0)) with h | h
      · have := (befP_iff _ _).1 h; simp only [mnP] at this; omega
      · exact h⟩
  | i + 1 => by
    obtain ⟨⟨j, hj, e⟩, h⟩ := mnP_spec ps i
    have hn : ∀ a b : Int × Int, befP a b = false ↔ ¬ (a.1 < b.1 ∨ (a.1 = b.1 ∧ a.2 < b.2)) := fun a b => by rw [← befP_iff]; simp
    rcases Bool.eq_false_or_eq_true (befP (ps.getD (i + 1) (0, 0)) (mnP ps i)) with q | q
    · have em : mnP ps (i + 1) = ps.getD (i + 1) (0, 0) := if_pos q
      rw [em]
      refine ⟨⟨i + 1, Nat.le_refl _, rfl⟩, fun k hk => ?_⟩
      rw [hn]
      rcases Nat.eq_or_lt_of_le hk with rfl | hk
      · omega
      · have a := (hn _ _).1 (h k (by omega)); have b := (befP_iff _ _).1 q
        omega
    · have em : mnP ps (i + 1) = mnP ps i := if_neg (by rw [q]; decide)
      rw [em]
      refine ⟨⟨j, by omega, e⟩, fun k hk => ?_⟩
      rcases Nat.eq_or_lt_of_le hk with rfl | hk
      · exact q
      · exact h k (by omega)
def eqTo (a q : Int × Int) : Bool := (a.1 == q.1) && ((a.2 == q.2) && true)
theorem eqTo_iff (a q : Int × Int) : eqTo a q = true ↔ a = q := by
  unfold eqTo; simp [Prod.ext_iff]
/-- a ring written from the place a on -/
def rotL (ps : List (Int × Int)) (a : Nat) : List (Int × Int) := ps.drop a ++ ps.take a
/-- all corners are different -/
def Diff (ps : List (Int × Int)) : Prop := ∀ i j, i < j → j < ps.length → ps.getD i (0, 0) ≠ ps.getD j (0, 0)
theorem diff_eq {ps : List (Int × Int)} (h : Diff ps) {i j : Nat} (hi : i < ps.length) (hj : j < ps.length) (e : ps.getD i (0, 0) = ps.getD j (0, 0)) : i = j := by
  rcases Nat.lt_trichotomy i j with q | q | q
  · exact absurd e (h i j q hj)
  · exact q
  · exact absurd e.symm (h j i q hi)
theorem meet_end {ax ay bx b_y cx cy dx dy : Int} (h : onb cx cy dx dy ax ay = true) : meetN ax ay bx b_y cx cy dx dy > 0 := by
  unfold meetN
  split
  · decide
  · have hm : (ax, ay) ∈ shr ax ay bx b_y cx cy dx dy := mem_shr.2 (.inl ⟨rfl, h⟩)
    have := List.length_pos_of_mem hm
    unfold mn; split <;> omega
theorem chk_diff {ps : List (Int × Int)} (h : chkF ps = 0) : (3 ≤ ps.length ∧ ps.length ≤ 200) ∧ Diff ps := by
  unfold chkF at h
  split at h
  · cases h
  · rename_i c1
    split at h
    · cases h
    · rename_i c2
      split at h
      · cases h
      · split at h
        · rename_i c4
          have hn : 3 ≤ ps.length ∧ ps.length ≤ 200 := by simp only [decide_eq_true_eq] at c1 c2; omega
          refine ⟨hn, fun a b hab hb e => ?_⟩
          have ap := all_at (all_at c4 hb) hab
          have hE : ∀ k k2, ps.getD k (0, 0) = ps.getD k2 (0, 0) → eqP ps k k2 = true := fun k k2 e => by unfold eqP gx gy; rw [e]; simp
          have bp : meetN (cA ps a) (cB ps a) (cA ps ((a + 1) % ps.length)) (cB ps ((a + 1) % ps.length)) (cA ps b) (cB ps b) (cA ps ((b + 1) % ps.length)) (cB ps ((b + 1) % ps.length)) > 0 := by
            refine meet_end ?_
            have e1 : cA ps a = cA ps b := by unfold cA; rw [e]
            have e2 : cB ps a = cB ps b := by unfold cB; rw [e]
            rw [e1, e2]; exact on_start _ _ _ _
          have ap' : apF ps a ((a + 1) % ps.length) b ((b + 1) % ps.length) = true := ap
          by_cases h1 : a + 1 = b
          · rw [apF_1 (hE _ _ (by rw [Nat.mod_eq_of_lt (show a + 1 < ps.length by omega), h1]; exact e))] at ap'; cases ap'
          · by_cases h2 : a = 0 ∧ b + 1 = ps.length
            · have : eqP ps b ((b + 1) % ps.length) = true := hE _ _ (by rw [h2.2, Nat.mod_self, ← h2.1]; exact e.symm)
              unfold apF at ap'; rw [this] at ap'; simp at ap'
            · have hb2 : (b + 1) % ps.length = if b + 1 = ps.length then 0 else b + 1 := by
                split
                · rename_i h; rw [h, Nat.mod_self]
                · exact Nat.mod_eq_of_lt (by omega)
              have bp' : mnE ps a ((a + 1) % ps.length) b ((b + 1) % ps.length) > 0 := bp
              unfold apF at ap'
              generalize mnE ps a ((a + 1) % ps.length) b ((b + 1) % ps.length) = M at *
              have t1 : (((a : Nat) : Int) + 1 == ((b : Nat) : Int)) = false := by rw [beq_eq_false_iff_ne]; omega
              have t2 : ((((b + 1) % ps.length : Nat) : Int) == ((a : Nat) : Int)) = false := by rw [hb2, beq_eq_false_iff_ne]; split <;> omega
              rw [t1, t2] at ap'
              generalize eqP ps a ((a + 1) % ps.length) = E1 at *
              generalize eqP ps b ((b + 1) % ps.length) = E2 at *
              cases E1 <;> cases E2 <;> simp at ap'
              omega
        · cases h
/-- the place of the least corner -/
theorem least_ex {ps : List (Int × Int)} (hn : 1 ≤ ps.length) : ∃ m, m < ps.length ∧ mnP ps (ps.length - 1) = ps.getD m (0, 0) ∧ ∀ j, j < ps.length → befP (ps.getD j (0, 0)) (ps.getD m (0, 0)) = false := by
  obtain ⟨⟨j, hj, e⟩, h⟩ := mnP_spec ps (ps.length - 1)
  exact ⟨j, by omega, e, fun k hk => by rw [← e]; exact h k (by omega)⟩
theorem bef_tot {a b : Int × Int} (h1 : befP a b = false) (h2 : befP b a = false) : a = b := by
  have e1 : ¬ (a.1 < b.1 ∨ (a.1 = b.1 ∧ a.2 < b.2)) := by rw [← befP_iff, h1]; decide
  have e2 : ¬ (b.1 < a.1 ∨ (b.1 = a.1 ∧ b.2 < a.2)) := by rw [← befP_iff, h2]; decide
  exact Prod.ext (by omega) (by omega)
theorem ix_eq {ps : List (Int × Int)} (hd : Diff ps) {m : Nat} (hm : m < ps.length) : ixF (eqTo (ps.getD m (0, 0))) ps 0 = ((m : Nat) : Int) := by
  rcases ixF_bd (eqTo (ps.getD m (0, 0))) ps ps.length 0 (by omega) with ⟨_, h2⟩ | ⟨j, _, h2, h3, h4, _⟩
  · rw [List.drop_zero, List.any_eq_false] at h2
    have := h2 (ps.getD m (0, 0)) (by rw [getD_lt hm]; exact List.getElem_mem hm)
    rw [(eqTo_iff _ _).2 rfl] at this; simp at this
  · rw [h3, diff_eq hd hm h2 ((eqTo_iff _ _).1 h4)]
theorem diff_rev {ps : List (Int × Int)} (h : Diff ps) : Diff ps.reverse := by
  intro i j hij hj e
  rw [List.length_reverse] at hj
  rw [rev_at (by omega), rev_at hj] at e
  exact h (ps.length - 1 - j) (ps.length - 1 - i) (by omega) (by omega) e.symm
/-- what Norm answers of different corners -/
def nrmL (ps : List (Int × Int)) (m : Nat) : List (Int × Int) := if twF ps 1 0 < 0 then rotL ps.reverse (ps.length - 1 - m) else rotL ps m
section
variable {ps : List (Int × Int)} {m q i : Nat}
theorem min_pt (hm : m < ps.length) (hl : ∀ j, j < ps.length → befP (ps.getD j (0, 0)) (ps.getD m (0, 0)) = false) : mnP ps (ps.length - 1) = ps.getD m (0, 0) := by
  obtain ⟨j, hj, e, h⟩ := least_ex (ps := ps) (by omega)
  rw [e]
  exact bef_tot (hl j hj) (h m hm)
theorem ix_plain (hm : m < ps.length) (hd : Diff ps) (hl : ∀ j, j < ps.length → befP (ps.getD j (0, 0)) (ps.getD m (0, 0)) = false) : ixF (eqTo ((mnP ps (ps.length - 1)).1, (mnP ps (ps.length - 1)).2)) ps 0 = ((m : Nat) : Int) := by
  rw [min_pt hm hl]; exact ix_eq hd hm
theorem ix_rev (hm : m < ps.length) (hd : Diff ps) (hl : ∀ j, j < ps.length → befP (ps.getD j (0, 0)) (ps.getD m (0, 0)) = false) (hq : ps.length - 1 - m = q) : ixF (eqTo ((mnP ps.reverse (ps.length - 1)).1, (mnP ps.reverse (ps.length - 1)).2)) ps.reverse 0 = ((q : Nat) : Int) := by
  have hq' : q < ps.reverse.length := by rw [List.length_reverse]; omega
  have e : ps.reverse.getD q (0, 0) = ps.getD m (0, 0) := by rw [rev_at (by omega)]; congr 1; omega
  have := ix_plain (ps := ps.reverse) (m := q) hq' (diff_rev hd) (fun j hj => by rw [List.length_reverse] at hj; rw [e, rev_at hj]; exact hl _ (by omega))
  rw [List.length_reverse] at this; exact this
theorem nrm_rev (ht : twF ps 1 0 < 0) (hq : ps.length - 1 - m = q) : nrmL ps m = rotL ps.reverse q := by subst hq; exact if_pos ht
theorem nrm_pl (ht : ¬ twF ps 1 0 < 0) : nrmL ps m = rotL ps m := if_neg ht
end
end Go.Proofs.Ytndkhgfecnbmnaa.Am.Sp

set_option linter.unusedVariables false
set_option linter.unusedSimpArgs false
namespace Go.Proofs.Ytndkhgfecnbmnaa.Am.Sp
theorem addb_on {l px py qx qy rx ry} (h : addb l px py qx qy rx ry = true) : onb qx qy rx ry px py = true := by
  unfold addb at h; rw [Bool.and_eq_true] at h; exact h.1
theorem addb_no {l px py qx qy rx ry} (h : addb l px py qx qy rx ry = true) : has2 l px py = false := by
  unfold addb at h; rw [Bool.and_eq_true] at h; simpa using h.2
theorem has2_mem {l : List (Int × Int)} {x y px py : Int} (hm : (x, y) ∈ l) (h : has2 l px py = false) : ((x == px) && ((y == py) && true)) = false := by
  unfold has2 at h
  rw [List.any_eq_false] at h
  have := h _ hm
  simpa using this
theorem cmp3 (ax ay bx b_y cx cy dx dy : Int) : (-1 ≤ cmp (crs ax ay bx b_y cx cy) 0 * cmp (crs ax ay bx b_y dx dy) 0 ∧ cmp (crs ax ay bx b_y cx cy) 0 * cmp (crs ax ay bx b_y dx dy) 0 ≤ 1) ∧
    (-1 ≤ cmp (crs cx cy dx dy ax ay) 0 * cmp (crs cx cy dx dy bx b_y) 0 ∧ cmp (crs cx cy dx dy ax ay) 0 * cmp (crs cx cy dx dy bx b_y) 0 ≤ 1) := by
  have a := cmp_bd (crs ax ay bx b_y cx cy) 0
  have b := cmp_bd (crs ax ay bx b_y dx dy) 0
  have c := cmp_bd (crs cx cy dx dy ax ay) 0
  have d := cmp_bd (crs cx cy dx dy bx b_y) 0
  have p := mul_bd a.1 a.2 b.1 b.2
  have q := mul_bd c.1 c.2 d.1 d.2
  omega
theorem prp_swap (ax ay bx b_y cx cy dx dy : Int) : prp cx cy dx dy ax ay bx b_y = prp ax ay bx b_y cx cy dx dy := by
  rw [Bool.eq_iff_iff, prp_iff, prp_iff]; constructor <;> rintro ⟨h1, h2⟩ <;> exact ⟨h2, h1⟩
theorem shr_swap (ax ay bx b_y cx cy dx dy : Int) (z : Int × Int) : z ∈ shr cx cy dx dy ax ay bx b_y ↔ z ∈ shr ax ay bx b_y cx cy dx dy := by
  rw [mem_shr, mem_shr]; constructor <;> (rintro (h | h | h | h) <;> simp [h])
theorem len_same {l m : List (Int × Int)} (h1 : l.Nodup) (h2 : m.Nodup) (h : ∀ z, z ∈ l ↔ z ∈ m) : l.length = m.length :=
  ((List.perm_ext_iff_of_nodup h1 h2).2 h).length_eq
theorem meetN_swap (ax ay bx b_y cx cy dx dy : Int) : meetN cx cy dx dy ax ay bx b_y = meetN ax ay bx b_y cx cy dx dy := by
  unfold meetN; rw [prp_swap, len_same (nodup_shr ..) (nodup_shr ..) (shr_swap ax ay bx b_y cx cy dx dy)]
end Go.Proofs.Ytndkhgfecnbmnaa.Am.Sp

set_option linter.unusedVariables false
set_option linter.unusedSimpArgs false
namespace Go.Proofs.Ytndkhgfecnbmnaa.Am.Sp
open Go
def sumN (f : Nat → Int) : Nat → Int
  | 0 => 0
  | n + 1 => sumN f n + f n
theorem sumN_add (f : Nat → Int) (a : Nat) : ∀ b, sumN f (a + b) = sumN f a + sumN (fun i => f (a + i)) b
  | 0 => by simp [sumN]
  | b + 1 => by rw [← Nat.add_assoc, sumN, sumN_add f a b]; simp only [sumN]; omega
theorem sumN_bd {f : Nat → Int} {M : Int} (h : ∀ i, -M ≤ f i ∧ f i ≤ M) : ∀ n : Nat, -(M * n) ≤ sumN f n ∧ sumN f n ≤ M * n
  | 0 => by simp [sumN]
  | n + 1 => by
    have ih := sumN_bd h n
    have := h n
    unfold sumN
    rw [Int.natCast_succ, Int.mul_add, Int.mul_one]; omega
/-- twice the area, one edge after another -/
def trE (ps : List (Int × Int)) (i : Nat) : Int := trp ps i ((i + 1) % ps.length)
def areaN (ps : List (Int × Int)) : Int := sumN (trE ps) ps.length
theorem dblE_sum (ps : List (Int × Int)) : ∀ (m i : Nat), i + m = ps.length → sumN (trE ps) i + dblE ps i = areaN ps
  | 0, i, h => by rw [dblE, if_neg (by omega), show i = ps.length by omega]; unfold areaN; omega
  | m + 1, i, h => by
    have ih := dblE_sum ps m (i + 1) (by omega)
    rw [dblE, if_pos (by omega)]
    rw [sumN] at ih
    unfold trE at *; omega
theorem dblE_area (ps : List (Int × Int)) : dblE ps 0 = areaN ps := by have := dblE_sum ps ps.length 0 (by omega); simp only [sumN, Int.zero_add] at this; exact this
theorem twF_area {ps : List (Int × Int)} (hf : Few 40 ps) (hl : ps.length ≤ 8) : twF ps 1 0 = areaN ps ∧ (-51200 ≤ areaN ps ∧ areaN ps ≤ 51200) := by
  have hb : -51200 ≤ areaN ps ∧ areaN ps ≤ 51200 := by
    have := sumN_bd (f := trE ps) (M := 6400) (fun i => by
      have a := hf i
      have b := hf ((i + 1) % ps.length)
      unfold trE trp cA cB
      rw [lim_id (by omega) (by omega), lim_id (by omega) (by omega), lim_id (by omega) (by omega), lim_id (by omega) (by omega)]
      exact mul_bd (A := 80) (B := 80) (by omega) (by omega) (by omega) (by omega)) ps.length
    unfold areaN
    have hc : ((ps.length : Nat) : Int) ≤ 8 := by omega
    omega
  refine ⟨?_, hb⟩
  have z : IntKind.wrap .i64 0 = 0 := by rw [IntKind.wrap_i64]; omega
  rw [← dblF_twF]
  have a := dblF_E ps ps.length 0 0 (by omega)
  rw [z, Int.zero_add, dblE_area] at a
  rw [a, IntKind.wrap_i64]; omega
def okE (ps : List (Int × Int)) (i k : Nat) : Prop := (eqP ps i ((i + 1) % ps.length) = false ∧ eqP ps k ((k + 1) % ps.length) = false) ∧ mnE ps i ((i + 1) % ps.length) k ((k + 1) % ps.length) = if (i + 1) % ps.length = k ∨ (k + 1) % ps.length = i then 1 else 0
theorem mn_swap (ps : List (Int × Int)) (a b c d : Nat) : mnE ps c d a b = mnE ps a b c d := meetN_swap _ _ _ _ _ _ _ _
theorem okE_symm {ps : List (Int × Int)} {i k : Nat} (h : okE ps i k) : okE ps k i := by
  refine ⟨⟨h.1.2, h.1.1⟩, ?_⟩
  rw [mn_swap, h.2]
  by_cases c : (i + 1) % ps.length = k ∨ (k + 1) % ps.length = i
  · rw [if_pos c, if_pos c.symm]
  · rw [if_neg c, if_neg fun q => c q.symm]
theorem apE_iff {ps : List (Int × Int)} (hn : 3 ≤ ps.length) {k i : Nat} (hk : k < i) (hi : i < ps.length) : apE ps k i = true ↔ okE ps k i := by
  have hi2 : (i + 1) % ps.length = if i + 1 = ps.length then 0 else i + 1 := by
    split
    · rename_i h; rw [h, Nat.mod_self]
    · exact Nat.mod_eq_of_lt (by omega)
  have hk2 : (k + 1) % ps.length = k + 1 := Nat.mod_eq_of_lt (by omega)
  unfold okE apE apF
  generalize mnE ps k ((k + 1) % ps.length) i ((i + 1) % ps.length) = M
  generalize eqP ps k ((k + 1) % ps.length) = E1
  generalize eqP ps i ((i + 1) % ps.length) = E2
  rw [hi2, hk2]
  cases E1 <;> cases E2 <;> simp
  by_cases h1 : k + 1 = i
  · rw [if_pos (by omega), if_pos (.inl h1)]
  · rw [if_neg (by omega)]
    by_cases h2 : k = 0 ∧ i + 1 = ps.length
    · rw [if_pos (by rw [if_pos h2.2, h2.1]), if_pos (.inr (by rw [if_pos h2.2, h2.1]))]
    · rw [if_neg (by split <;> omega), if_neg (by split <;> omega)]
theorem allap_iff {ps : List (Int × Int)} (hn : 3 ≤ ps.length) : allap ps ps.length = true ↔ ∀ i k, i < ps.length → k < ps.length → i ≠ k → okE ps i k := by
  constructor
  · intro h i k hi hk hne
    rcases Nat.lt_or_gt_of_ne hne with q | q
    · exact (apE_iff hn q hk).1 (all_at (f := fun z => apE ps z k) (all_at (f := fun z => apRow ps z z) h hk) q)
    · exact okE_symm ((apE_iff hn q hi).1 (all_at (f := fun z => apE ps z i) (all_at (f := fun z => apRow ps z z) h hi) q))
  · intro h
    unfold allap apRow
    simp only [List.all_eq_true, List.mem_range]
    exact fun i hi k hk => (apE_iff hn hk hi).2 (h k i (by omega) hi (by omega))
end Go.Proofs.Ytndkhgfecnbmnaa.Am.Sp

set_option linter.unusedVariables false
set_option linter.unusedSimpArgs false
namespace Go.Proofs.Ytndkhgfecnbmnaa.Am.Sp
open Go
theorem has2_move (dx dy : Int) (l : List (Int × Int)) (px py : Int) : has2 (l.map (move2 (dx, dy))) (px + dx) (py + dy) = has2 l px py := by
  unfold has2
  rw [List.any_map]
  congr 1
  funext z
  simp only [Function.comp, move2]
  rw [Bool.eq_iff_iff]; simp only [Bool.and_true, Bool.and_eq_true, beq_iff_eq]
  omega
theorem addp_move (dx dy : Int) (l : List (Int × Int)) (px py qx qy rx ry : Int) : addp (l.map (move2 (dx, dy))) (px + dx) (py + dy) (qx + dx) (qy + dy) (rx + dx) (ry + dy) = (addp l px py qx qy rx ry).map (move2 (dx, dy)) := by
  have e : addb (l.map (move2 (dx, dy))) (px + dx) (py + dy) (qx + dx) (qy + dy) (rx + dx) (ry + dy) = addb l px py qx qy rx ry := by
    unfold addb; rw [has2_move]; congr 1; exact onb_move2 (dx, dy) (qx, qy) (rx, ry) (px, py)
  unfold addp; rw [e]
  split
  · rw [List.map_append]; rfl
  · rfl
theorem meetN_move (dx dy ax ay bx b_y cx cy ex ey : Int) : meetN (ax + dx) (ay + dy) (bx + dx) (b_y + dy) (cx + dx) (cy + dy) (ex + dx) (ey + dy) = meetN ax ay bx b_y cx cy ex ey := by
  have hs : shr (ax + dx) (ay + dy) (bx + dx) (b_y + dy) (cx + dx) (cy + dy) (ex + dx) (ey + dy) = (shr ax ay bx b_y cx cy ex ey).map (move2 (dx, dy)) := by
    unfold shr
    rw [← addp_move, ← addp_move, ← addp_move, ← addp_move]; rfl
  unfold meetN
  rw [hs, List.length_map]
  have hp : prp (ax + dx) (ay + dy) (bx + dx) (b_y + dy) (cx + dx) (cy + dy) (ex + dx) (ey + dy) = prp ax ay bx b_y cx cy ex ey := by
    unfold prp; rw [← crs_move, ← crs_move, ← crs_move, ← crs_move]
  rw [hp]
theorem cA_move {ps : List (Int × Int)} {dx dy : Int} {m : Int} (hm : m ≤ 1000) (hf : Few m ps) (hx : -1000 ≤ dx ∧ dx ≤ 1000) (hy : -1000 ≤ dy ∧ dy ≤ 1000) {i : Nat} (hi : i < ps.length) : cA (ps.map (move2 (dx, dy))) i = cA ps i + dx ∧ cB (ps.map (move2 (dx, dy))) i = cB ps i + dy := by
  unfold cA cB; rw [getD_map hi]
  have := hf i
  simp only [move2]
  rw [lim_id (by omega) (by omega), lim_id (by omega) (by omega), lim_id (by omega) (by omega), lim_id (by omega) (by omega)]; exact ⟨rfl, rfl⟩
theorem eqP_move {ps : List (Int × Int)} {d : Int × Int} {i j : Nat} (hi : i < ps.length) (hj : j < ps.length) : eqP (ps.map (move2 d)) i j = eqP ps i j := by
  unfold eqP gx gy
  rw [getD_map hi, getD_map hj, Bool.eq_iff_iff]
  simp only [move2, Bool.and_true, Bool.and_eq_true, beq_iff_eq]; omega
theorem allap_move {ps : List (Int × Int)} {dx dy : Int} {m : Int} (hm : m ≤ 1000) (hf : Few m ps) (hx : -1000 ≤ dx ∧ dx ≤ 1000) (hy : -1000 ≤ dy ∧ dy ≤ 1000) (hn : 3 ≤ ps.length) (h : allap ps ps.length = true) : allap (ps.map (move2 (dx, dy))) (ps.map (move2 (dx, dy))).length = true := by
  rw [allap_iff (by simpa using hn)]
  rw [allap_iff hn] at h
  rw [List.length_map]
  intro i k hi hk hne
  have o := h i k hi hk hne
  have mi := Nat.mod_lt (i + 1) (show 0 < ps.length by omega)
  have mk := Nat.mod_lt (k + 1) (show 0 < ps.length by omega)
  unfold okE at *
  rw [List.length_map]
  refine ⟨⟨by rw [eqP_move hi mi]; exact o.1.1, by rw [eqP_move hk mk]; exact o.1.2⟩, ?_⟩
  rw [← o.2]
  unfold mnE
  have c := fun {j : Nat} (hj : j < ps.length) => cA_move (dx := dx) (dy := dy) hm hf hx hy hj
  rw [(c hi).1, (c hi).2, (c mi).1, (c mi).2, (c hk).1, (c hk).2, (c mk).1, (c mk).2, meetN_move]
theorem few_le {m k : Int} {ps : List (Int × Int)} (h : Few m ps) (hk : m ≤ k) : Few k ps := fun i => by have := h i; omega
theorem few_nok {m : Int} {ps : List (Int × Int)} (hm : m ≤ 1048576) (h : Few m ps) : ps.any nok = false := by
  rw [List.any_eq_false]
  intro q hq
  have := few_mem h hq
  unfold nok
  rw [(okb_iff q.1 q.2).2 (by omega)]; simp
theorem chk_of {ps : List (Int × Int)} (h1 : 3 ≤ ps.length) (h2 : ps.length ≤ 200) (h3 : ps.any nok = false) (h4 : allap ps ps.length = true) : chkF ps = 0 :=
  chk_0 (decide_eq_false (by omega)) (decide_eq_false (by omega)) h3 rfl h4
/-- the least corner stays the least one -/
abbrev Least (ps : List (Int × Int)) (m : Nat) : Prop := ∀ j, j < ps.length → befP (ps.getD j (0, 0)) (ps.getD m (0, 0)) = false
theorem rot_zero (ps : List (Int × Int)) : rotL ps 0 = ps := by unfold rotL; simp
end Go.Proofs.Ytndkhgfecnbmnaa.Am.Sp

set_option linter.unusedVariables false
set_option linter.unusedSimpArgs false
namespace Go.Proofs.Ytndkhgfecnbmnaa.Am.Sp
open Go
def sdX0 (ax ay bx b_y x y : Int) : Bool := decide (2 * ay < y) && (decide (y ≤ 2 * b_y) && decide (sideD ax ay bx b_y x y > 0))
def sdX (ax ay bx b_y x y : Int) : Bool := if ay > b_y then sdX0 bx b_y ax ay x y else sdX0 ax ay bx b_y x y
def sdL (qs : List (Int × Int)) (x y : Int) : Nat → Nat → Int → Int
  | 0, _, out => out
  | m + 1, k, out => sdL qs x y m (k + 1) (if sdX (gx qs k) (gy qs k) (gx qs ((k + 1) % qs.length)) (gy qs ((k + 1) % qs.length)) x y = true then 0 - out else out)
def sdF (qs : List (Int × Int)) (x y : Int) : Int := sdL qs x y qs.length 0 (-1)
def sideF (ps : List (Int × Int)) (i : Nat) (qs : List (Int × Int)) : Int := sdF qs (gx ps i + gx ps ((i + 1) % ps.length)) (gy ps i + gy ps ((i + 1) % ps.length))
section
variable {qs : List (Int × Int)} {x y out : Int} {k j : Nat}
theorem sd_cr (hk : k < qs.length) (hj : (k + 1) % qs.length = j) (h : sdX (gx qs k) (gy qs k) (gx qs j) (gy qs j) x y = true) : sdL qs x y (qs.length - (k + 1)) (k + 1) (0 - out) = sdL qs x y (qs.length - k) k out := by
  conv => rhs; rw [show qs.length - k = qs.length - (k + 1) + 1 by omega, sdL, hj, if_pos h]
theorem sd_no (hk : k < qs.length) (hj : (k + 1) % qs.length = j) (h : sdX (gx qs k) (gy qs k) (gx qs j) (gy qs j) x y = false) : sdL qs x y (qs.length - (k + 1)) (k + 1) out = sdL qs x y (qs.length - k) k out := by
  conv => rhs; rw [show qs.length - k = qs.length - (k + 1) + 1 by omega, sdL, hj, if_neg (by rw [h]; decide)]
theorem sd_end (h : ¬ k < qs.length) : sdL qs x y (qs.length - k) k out = out := by rw [show qs.length - k = 0 by omega]; rfl
variable {ax ay bx b_y : Int}
theorem sdX_s (h : decide (ay > b_y) = true) : sdX ax ay bx b_y x y = sdX0 bx b_y ax ay x y := if_pos (of_decide_eq_true h)
theorem sdX_n (h : decide (ay > b_y) = false) : sdX ax ay bx b_y x y = sdX0 ax ay bx b_y x y := if_neg (of_decide_eq_false h)
theorem sdX0_1 (h : decide (2 * ay < y) = false) : sdX0 ax ay bx b_y x y = false := by unfold sdX0; rw [h]; rfl
theorem sdX0_2 (h : decide (2 * ay < y) = true) (h2 : decide (y ≤ 2 * b_y) = false) : sdX0 ax ay bx b_y x y = false := by unfold sdX0; rw [h, h2]; rfl
theorem sdX0_3 (h : decide (2 * ay < y) = true) (h2 : decide (y ≤ 2 * b_y) = true) (h3 : decide (sideD ax ay bx b_y x y > 0) = false) : sdX0 ax ay bx b_y x y = false := by unfold sdX0; rw [h, h2, h3]; rfl
theorem sdX0_4 (h : decide (2 * ay < y) = true) (h2 : decide (y ≤ 2 * b_y) = true) (h3 : decide (sideD ax ay bx b_y x y > 0) = true) : sdX0 ax ay bx b_y x y = true := by unfold sdX0; rw [h, h2, h3]; rfl
end
/-- what two edges have in common is a corner of both -/
def eqQ (ax ay bx b_y : Int) : Bool := (ax == bx) && ((ay == b_y) && true)
def cornX (ax ay bx b_y cx cy dx dy : Int) : Bool :=
  if (meetN (lim 1048576 ax) (lim 1048576 ay) (lim 1048576 bx) (lim 1048576 b_y) (lim 1048576 cx) (lim 1048576 cy) (lim 1048576 dx) (lim 1048576 dy) == 0) = true then true
  else if (meetN (lim 1048576 ax) (lim 1048576 ay) (lim 1048576 bx) (lim 1048576 b_y) (lim 1048576 cx) (lim 1048576 cy) (lim 1048576 dx) (lim 1048576 dy) == 1) = true then
    if eqQ ax ay cx cy = true then true else if eqQ ax ay dx dy = true then true else if eqQ bx b_y cx cy = true then true else eqQ bx b_y dx dy
  else false
def cornE (ps : List (Int × Int)) (i : Nat) (qs : List (Int × Int)) (k : Nat) : Bool :=
  cornX (gx ps i) (gy ps i) (gx ps ((i + 1) % ps.length)) (gy ps ((i + 1) % ps.length)) (gx qs k) (gy qs k) (gx qs ((k + 1) % qs.length)) (gy qs ((k + 1) % qs.length))
def cornAll (ps qs : List (Int × Int)) : Bool := (List.range ps.length).all fun i => (List.range qs.length).all fun k => cornE ps i qs k
def sdAll (ps qs : List (Int × Int)) (v : Int) : Bool := (List.range ps.length).all fun i => sideF ps i qs == v
/-- two rings do not cross: the edges of the first one are on the side v of the second one, those of the second one on the side w of the first one -/
def Fit (ps qs : List (Int × Int)) (v w : Int) : Prop := cornAll ps qs = true ∧ sdAll ps qs v = true ∧ sdAll qs ps w = true
instance (ps qs : List (Int × Int)) (v w : Int) : Decidable (Fit ps qs v w) := by unfold Fit; exact inferInstance
theorem corn_at {ps qs : List (Int × Int)} {i k i2 k2 : Nat} (h : cornAll ps qs = true) (hi : i < ps.length) (hk : k < qs.length) (h1 : (i + 1) % ps.length = i2) (h2 : (k + 1) % qs.length = k2) : cornX (gx ps i) (gy ps i) (gx ps i2) (gy ps i2) (gx qs k) (gy qs k) (gx qs k2) (gy qs k2) = true := by
  subst h1 h2
  exact all_at (f := fun k => cornE ps i qs k) (all_at (f := fun i => (List.range qs.length).all fun k => cornE ps i qs k) h hi) hk
theorem side_at {ps qs : List (Int × Int)} {i : Nat} {v : Int} (h : sdAll ps qs v = true) (hi : i < ps.length) : sideF ps i qs = v := by
  have := all_at (f := fun i => sideF ps i qs == v) h hi
  simpa using this
theorem sideD_move (dx dy ax ay bx b_y x y : Int) : sideD (ax + dx) (ay + dy) (bx + dx) (b_y + dy) (x + 2 * dx) (y + 2 * dy) = sideD ax ay bx b_y x y := by unfold sideD; grind
theorem sdX_move (dx dy ax ay bx b_y x y : Int) : sdX (ax + dx) (ay + dy) (bx + dx) (b_y + dy) (x + 2 * dx) (y + 2 * dy) = sdX ax ay bx b_y x y := by
  unfold sdX sdX0
  rw [sideD_move, sideD_move, Bool.eq_iff_iff]
  (repeat' split) <;> simp only [Bool.and_eq_true, decide_eq_true_eq] <;> omega
theorem gx_move {ps : List (Int × Int)} {dx dy : Int} {i : Nat} (h : i < ps.length) : gx (ps.map (move2 (dx, dy))) i = gx ps i + dx ∧ gy (ps.map (move2 (dx, dy))) i = gy ps i + dy := by
  unfold gx gy; rw [getD_map h]; exact ⟨rfl, rfl⟩
theorem sdL_move {qs : List (Int × Int)} (dx dy x y : Int) : ∀ (m k : Nat) (out : Int), k + m = qs.length → sdL (qs.map (move2 (dx, dy))) (x + 2 * dx) (y + 2 * dy) m k out = sdL qs x y m k out
  | 0, k, out, _ => rfl
  | m + 1, k, out, h => by
    have hm := Nat.mod_lt (k + 1) (show 0 < qs.length by omega)
    unfold sdL
    rw [List.length_map, (gx_move (dx := dx) (dy := dy) (show k < qs.length by omega)).1, (gx_move (dx := dx) (dy := dy) (show k < qs.length by omega)).2, (gx_move (dx := dx) (dy := dy) hm).1, (gx_move (dx := dx) (dy := dy) hm).2, sdX_move]
    exact sdL_move dx dy x y m (k + 1) _ (by omega)
theorem sideF_move {ps qs : List (Int × Int)} {dx dy : Int} {i : Nat} (hi : i < ps.length) : sideF (ps.map (move2 (dx, dy))) i (qs.map (move2 (dx, dy))) = sideF ps i qs := by
  have hm := Nat.mod_lt (i + 1) (show 0 < ps.length by omega)
  unfold sideF sdF
  rw [List.length_map, List.length_map, (gx_move (dx := dx) (dy := dy) hi).1, (gx_move (dx := dx) (dy := dy) hi).2, (gx_move (dx := dx) (dy := dy) hm).1, (gx_move (dx := dx) (dy := dy) hm).2]
  rw [show gx ps i + dx + (gx ps ((i + 1) % ps.length) + dx) = gx ps i + gx ps ((i + 1) % ps.length) + 2 * dx by omega, show gy ps i + dy + (gy ps ((i + 1) % ps.length) + dy) = gy ps i + gy ps ((i + 1) % ps.length) + 2 * dy by omega]
  exact sdL_move dx dy _ _ qs.length 0 (-1) (by omega)
theorem eqQ_move (dx dy ax ay bx b_y : Int) : eqQ (ax + dx) (ay + dy) (bx + dx) (b_y + dy) = eqQ ax ay bx b_y := by
  unfold eqQ; rw [Bool.eq_iff_iff]; simp only [Bool.and_true, Bool.and_eq_true, beq_iff_eq]; omega
theorem cornE_move {ps qs : List (Int × Int)} {dx dy : Int} {i k : Nat} (hp : Few 200 ps) (hq : Few 200 qs) (hx : -1000 ≤ dx ∧ dx ≤ 1000) (hy : -1000 ≤ dy ∧ dy ≤ 1000) (hi : i < ps.length) (hk : k < qs.length) : cornE (ps.map (move2 (dx, dy))) i (qs.map (move2 (dx, dy))) k = cornE ps i qs k := by
  have hm := Nat.mod_lt (i + 1) (show 0 < ps.length by omega)
  have hn := Nat.mod_lt (k + 1) (show 0 < qs.length by omega)
  have b1 : _ ∧ _ := hp i
  have b2 : _ ∧ _ := hp ((i + 1) % ps.length)
  have b3 : _ ∧ _ := hq k
  have b4 : _ ∧ _ := hq ((k + 1) % qs.length)
  unfold cornE
  rw [List.length_map, List.length_map, (gx_move (dx := dx) (dy := dy) hi).1, (gx_move (dx := dx) (dy := dy) hi).2, (gx_move (dx := dx) (dy := dy) hm).1, (gx_move (dx := dx) (dy := dy) hm).2, (gx_move (dx := dx) (dy := dy) hk).1, (gx_move (dx := dx) (dy := dy) hk).2, (gx_move (dx := dx) (dy := dy) hn).1, (gx_move (dx := dx) (dy := dy) hn).2]
  unfold gx gy
  generalize (ps.getD i (0, 0)).1 = a1 at *
  generalize (ps.getD i (0, 0)).2 = a2 at *
  generalize (ps.getD ((i + 1) % ps.length) (0, 0)).1 = a3 at *
  generalize (ps.getD ((i + 1) % ps.length) (0, 0)).2 = a4 at *
  generalize (qs.getD k (0, 0)).1 = c1 at *
  generalize (qs.getD k (0, 0)).2 = c2 at *
  generalize (qs.getD ((k + 1) % qs.length) (0, 0)).1 = c3 at *
  generalize (qs.getD ((k + 1) % qs.length) (0, 0)).2 = c4 at *
  unfold cornX
  have L : ∀ z : Int, -200 ≤ z ∧ z ≤ 200 → lim 1048576 z = z := fun z hz => lim_id (by omega) (by omega)
  have M : ∀ z d : Int, -200 ≤ z ∧ z ≤ 200 → -1000 ≤ d ∧ d ≤ 1000 → lim 1048576 (z + d) = z + d := fun z d hz hd => lim_id (by omega) (by omega)
  rw [M a1 dx b1.1 hx, M a2 dy b1.2 hy, M a3 dx b2.1 hx, M a4 dy b2.2 hy, M c1 dx b3.1 hx, M c2 dy b3.2 hy, M c3 dx b4.1 hx, M c4 dy b4.2 hy, L a1 b1.1, L a2 b1.2, L a3 b2.1, L a4 b2.2, L c1 b3.1, L c2 b3.2, L c3 b4.1, L c4 b4.2, meetN_move, eqQ_move, eqQ_move, eqQ_move, eqQ_move]
theorem fit_move {ps qs : List (Int × Int)} {dx dy v w : Int} (hp : Few 200 ps) (hq : Few 200 qs) (hx : -1000 ≤ dx ∧ dx ≤ 1000) (hy : -1000 ≤ dy ∧ dy ≤ 1000) (h : Fit ps qs v w) : Fit (ps.map (move2 (dx, dy))) (qs.map (move2 (dx, dy))) v w := by
  obtain ⟨h1, h2, h3⟩ := h
  refine ⟨?_, ?_, ?_⟩
  · unfold cornAll
    simp only [List.all_eq_true, List.mem_range, List.length_map]
    intro i hi k hk
    rw [cornE_move hp hq hx hy hi hk]
    exact all_at (f := fun k => cornE ps i qs k) (all_at (f := fun i => (List.range qs.length).all fun k => cornE ps i qs k) h1 hi) hk
  · unfold sdAll
    simp only [List.all_eq_true, List.mem_range, List.length_map, beq_iff_eq]
    intro i hi
    rw [sideF_move hi]; exact side_at h2 hi
  · unfold sdAll
    simp only [List.all_eq_true, List.mem_range, List.length_map, beq_iff_eq]
    intro i hi
    rw [sideF_move hi]; exact side_at h3 hi
def sqr (x y r : Int) : List (Int × Int) := [(x - r, y - r), (x + r, y - r), (x + r, y + r), (x - r, y + r)]
def hol (x y r : Int) : List (Int × Int) := [(x - r, y - r), (x - r, y + r), (x + r, y + r), (x + r, y - r)]
theorem sqr_move (x y r dx : Int) : sqr (x + dx) y r = (sqr dx 0 r).map (move2 (x, y)) := by
  simp only [sqr, List.map_cons, List.map_nil, move2, List.cons.injEq, Prod.mk.injEq, and_true]; omega
theorem sqr_at (x y r : Int) : sqr x y r = (sqr 0 0 r).map (move2 (x, y)) := by have := sqr_move x y r 0; rwa [Int.add_zero] at this
theorem hol_at (x y r : Int) : hol x y r = (hol 0 0 r).map (move2 (x, y)) := by
  simp only [hol, List.map_cons, List.map_nil, move2, List.cons.injEq, Prod.mk.injEq, and_true]; omega
theorem few_sqr {x y r m : Int} (hr : 0 ≤ r) (hx : -m ≤ x - r ∧ x + r ≤ m) (hy : -m ≤ y - r ∧ y + r ≤ m) : Few m (sqr x y r) ∧ Few m (hol x y r) :=
  ⟨few_of (by omega) (by simp only [sqr, List.mem_cons, List.not_mem_nil, or_false, forall_eq_or_imp, forall_eq]; omega), few_of (by omega) (by simp only [hol, List.mem_cons, List.not_mem_nil, or_false, forall_eq_or_imp, forall_eq]; omega)⟩
set_option maxRecDepth 100000 in
theorem sq_ring : ((List.range 16).all fun r => r == 0 || (allap (sqr 0 0 r) 4 && allap (hol 0 0 r) 4)) = true := by decide +kernel
set_option maxRecDepth 100000 in
theorem sq_hol : ((List.range 16).all fun r => Nat.blt r 6 || (List.range (r - 2)).all fun k => decide (Fit (hol 0 0 (k + 1 : Nat)) (sqr 0 0 r) 1 (-1))) = true := by decide +kernel
set_option maxRecDepth 100000 in
theorem sq_sq : ((List.range 16).all fun r => Nat.blt r 6 || (List.range (r - 4)).all fun j => decide (Fit (sqr 0 0 (j + 1 : Nat)) (sqr 0 0 r) 1 (-1))) = true := by decide +kernel
set_option maxRecDepth 100000 in
theorem hol_sq : ((List.range 14).all fun k => Nat.blt k 3 || (List.range (k - 2)).all fun j => decide (Fit (sqr 0 0 (j + 1 : Nat)) (hol 0 0 k) 1 (-1))) = true := by decide +kernel
set_option maxRecDepth 100000 in
theorem sq_by : ((List.range 16).all fun r => Nat.blt r 6 || (List.range 3).all fun d => decide (Fit (sqr (r + 3 + d : Nat) 0 2) (sqr 0 0 r) (-1) (-1))) = true := by decide +kernel
end Go.Proofs.Ytndkhgfecnbmnaa.Am.Sp

set_option linter.unusedVariables false
set_option linter.unusedSimpArgs false
namespace Go.Proofs.Ytndkhgfecnbmnaa.Am.Sp
open Go
theorem sq_good {x y r : Int} (h1 : 1 ≤ r) (h2 : r ≤ 15) (hx : -60 ≤ x ∧ x ≤ 60) (hy : -60 ≤ y ∧ y ≤ 60) : chkF (sqr x y r) = 0 ∧ chkF (hol x y r) = 0 := by
  obtain ⟨n, rfl⟩ : ∃ n : Nat, r = (n : Int) := ⟨r.toNat, by omega⟩
  have h := all_at (f := fun r : Nat => r == 0 || (allap (sqr 0 0 r) 4 && allap (hol 0 0 r) 4)) sq_ring (show n < 16 by omega)
  simp only [Bool.or_eq_true, beq_iff_eq, Bool.and_eq_true] at h
  have h : allap (sqr 0 0 n) 4 = true ∧ allap (hol 0 0 n) 4 = true := h.resolve_left (by omega)
  have f0 := few_sqr (x := 0) (y := 0) (r := (n : Int)) (m := 200) (by omega) (by omega) (by omega)
  have f1 := few_sqr (x := x) (y := y) (r := (n : Int)) (m := 200) (by omega) (by omega) (by omega)
  constructor
  · refine chk_of (by simp [sqr]) (by simp [sqr]) (few_nok (by decide) f1.1) ?_
    rw [sqr_at]; exact allap_move (m := 200) (by decide) f0.1 (by omega) (by omega) (by simp [sqr]) h.1
  · refine chk_of (by simp [hol]) (by simp [hol]) (few_nok (by decide) f1.2) ?_
    rw [hol_at]; exact allap_move (m := 200) (by decide) f0.2 (by omega) (by omega) (by simp [hol]) h.2
section
variable {x y r k j d : Int}
theorem blt6 {a b : Nat} (h : b ≤ a) : Nat.blt a b = false := by
  rcases Bool.eq_false_or_eq_true (Nat.blt a b) with q | q
  · have := Nat.le_of_ble_eq_true q; omega
  · exact q
theorem fit_hs (h1 : 6 ≤ r) (h2 : r ≤ 15) (k1 : 1 ≤ k) (k2 : k ≤ r - 2) (hx : -60 ≤ x ∧ x ≤ 60) (hy : -60 ≤ y ∧ y ≤ 60) : Fit (hol x y k) (sqr x y r) 1 (-1) := by
  obtain ⟨n, rfl⟩ : ∃ n : Nat, r = (n : Int) := ⟨r.toNat, by omega⟩
  obtain ⟨m, rfl⟩ : ∃ m : Nat, k = ((m + 1 : Nat) : Int) := ⟨(k - 1).toNat, by omega⟩
  have h := all_at (f := fun r : Nat => Nat.blt r 6 || (List.range (r - 2)).all fun k : Nat => decide (Fit (hol 0 0 (k + 1 : Nat)) (sqr 0 0 r) 1 (-1))) sq_hol (show n < 16 by omega)
  rw [blt6 (show 6 ≤ n by omega), Bool.false_or] at h
  have h := of_decide_eq_true (all_at (f := fun k : Nat => decide (Fit (hol 0 0 (k + 1 : Nat)) (sqr 0 0 n) 1 (-1))) h (show m < n - 2 by omega))
  rw [hol_at, sqr_at]
  exact fit_move (few_sqr (m := 200) (by omega) (by omega) (by omega)).2 (few_sqr (m := 200) (by omega) (by omega) (by omega)).1 (by omega) (by omega) h
theorem fit_ss (h1 : 6 ≤ r) (h2 : r ≤ 15) (k1 : 1 ≤ j) (k2 : j ≤ r - 4) (hx : -60 ≤ x ∧ x ≤ 60) (hy : -60 ≤ y ∧ y ≤ 60) : Fit (sqr x y j) (sqr x y r) 1 (-1) := by
  obtain ⟨n, rfl⟩ : ∃ n : Nat, r = (n : Int) := ⟨r.toNat, by omega⟩
  obtain ⟨m, rfl⟩ : ∃ m : Nat, j = ((m + 1 : Nat) : Int) := ⟨(j - 1).toNat, by omega⟩
  have h := all_at (f := fun r : Nat => Nat.blt r 6 || (List.range (r - 4)).all fun k : Nat => decide (Fit (sqr 0 0 (k + 1 : Nat)) (sqr 0 0 r) 1 (-1))) sq_sq (show n < 16 by omega)
  rw [blt6 (show 6 ≤ n by omega), Bool.false_or] at h
  have h := of_decide_eq_true (all_at (f := fun k : Nat => decide (Fit (sqr 0 0 (k + 1 : Nat)) (sqr 0 0 n) 1 (-1))) h (show m < n - 4 by omega))
  rw [sqr_at, sqr_at x y n]
  exact fit_move (few_sqr (m := 200) (by omega) (by omega) (by omega)).1 (few_sqr (m := 200) (by omega) (by omega) (by omega)).1 (by omega) (by omega) h
theorem fit_sh (h1 : 3 ≤ k) (h2 : k ≤ 13) (k1 : 1 ≤ j) (k2 : j ≤ k - 2) (hx : -60 ≤ x ∧ x ≤ 60) (hy : -60 ≤ y ∧ y ≤ 60) : Fit (sqr x y j) (hol x y k) 1 (-1) := by
  obtain ⟨n, rfl⟩ : ∃ n : Nat, k = (n : Int) := ⟨k.toNat, by omega⟩
  obtain ⟨m, rfl⟩ : ∃ m : Nat, j = ((m + 1 : Nat) : Int) := ⟨(j - 1).toNat, by omega⟩
  have h := all_at (f := fun r : Nat => Nat.blt r 3 || (List.range (r - 2)).all fun k : Nat => decide (Fit (sqr 0 0 (k + 1 : Nat)) (hol 0 0 r) 1 (-1))) hol_sq (show n < 14 by omega)
  rw [blt6 (show 3 ≤ n by omega), Bool.false_or] at h
  have h := of_decide_eq_true (all_at (f := fun k : Nat => decide (Fit (sqr 0 0 (k + 1 : Nat)) (hol 0 0 n) 1 (-1))) h (show m < n - 2 by omega))
  rw [sqr_at, hol_at x y n]
  exact fit_move (few_sqr (m := 200) (by omega) (by omega) (by omega)).1 (few_sqr (m := 200) (by omega) (by omega) (by omega)).2 (by omega) (by omega) h
theorem fit_by (h1 : 6 ≤ r) (h2 : r ≤ 15) (d1 : 0 ≤ d) (d2 : d ≤ 2) (hx : -60 ≤ x ∧ x ≤ 60) (hy : -60 ≤ y ∧ y ≤ 60) : Fit (sqr (x + r + 3 + d) y 2) (sqr x y r) (-1) (-1) := by
  obtain ⟨n, rfl⟩ : ∃ n : Nat, r = (n : Int) := ⟨r.toNat, by omega⟩
  obtain ⟨m, rfl⟩ : ∃ m : Nat, d = (m : Int) := ⟨d.toNat, by omega⟩
  have h := all_at (f := fun r : Nat => Nat.blt r 6 || (List.range 3).all fun d : Nat => decide (Fit (sqr (r + 3 + d : Nat) 0 2) (sqr 0 0 r) (-1) (-1))) sq_by (show n < 16 by omega)
  rw [blt6 (show 6 ≤ n by omega), Bool.false_or] at h
  have h := of_decide_eq_true (all_at (f := fun d : Nat => decide (Fit (sqr (n + 3 + d : Nat) 0 2) (sqr 0 0 n) (-1) (-1))) h (show m < 3 by omega))
  rw [show x + (n : Int) + 3 + (m : Int) = x + ((n + 3 + m : Nat) : Int) by omega, sqr_move, sqr_at x y n]
  exact fit_move (few_sqr (m := 200) (by omega) (by omega) (by omega)).1 (few_sqr (m := 200) (by omega) (by omega) (by omega)).1 (by omega) (by omega) h
end
def ahF : List Int → Int → Int
  | [], out => out
  | h :: t, out => if (h == 0) = true then 0 else if (h == 1) = true then ahF t (0 - out) else ahF t out
end Go.Proofs.Ytndkhgfecnbmnaa.Am.Sp
set_option linter.unusedVariables false
set_option linter.unusedSimpArgs false
namespace Go.Proofs.Ytndkhgfecnbmnaa.Am.Sp
open Go
def bg1 : List (Int × Int) := [(0, 0), (4, 0), (4, 4), (0, 4)]
def bg2 : List (Int × Int) := [(1, 1), (2, 1), (2, 2), (1, 2)]
theorem bg_fit : Fit bg2 bg1 1 (-1) := by decide +kernel
theorem bg_few : Few 40 bg1 ∧ Few 40 bg2 := ⟨few_of (by decide) (by unfold bg1; simp only [List.mem_cons, List.not_mem_nil, or_false, forall_eq_or_imp, forall_eq]; decide), few_of (by decide) (by unfold bg2; simp only [List.mem_cons, List.not_mem_nil, or_false, forall_eq_or_imp, forall_eq]; decide)⟩
theorem bg_chk : chkF bg1 = 0 ∧ chkF bg2 = 0 := ⟨chk_of (by decide) (by decide) (few_nok (by decide) bg_few.1) (by decide +kernel), chk_of (by decide) (by decide) (few_nok (by decide) bg_few.2) (by decide +kernel)⟩
theorem bg_tw : twF bg1 1 0 = 32 ∧ twF bg2 1 0 = 2 := ⟨(twF_area bg_few.1 (by decide)).1.trans (by decide +kernel), (twF_area bg_few.2 (by decide)).1.trans (by decide +kernel)⟩
end Go.Proofs.Ytndkhgfecnbmnaa.Am.Sp

namespace Go.Proofs.Ytndkhgfecnbmnaa.Am
open Go
set_option linter.unusedVariables false
set_option linter.unusedSimpArgs false
theorem set_pair {ps : List (Int × Int)} {j off : Nat} {x y : Int} (ho : off = 2 * j) (hj : j < ps.length) : setL (ps.flatMap ptc) off [.int .i64 x, .int .i64 y] = (ps.set j (x, y)).flatMap ptc := by
  subst ho
  simp only [setL]
  induction ps generalizing j with
  | nil => simp at hj
  | cons p r ih =>
    cases j with
    | zero => simp [ptc]
    | succ j =>
      have h := ih (j := j) (by simpa using hj)
      rw [List.set_cons_succ, List.flatMap_cons, List.flatMap_cons, ← h]
      rw [show 2 * (j + 1) = 2 * j + 1 + 1 by omega, show 2 * j + 1 + 1 + 1 = 2 * j + 1 + 1 + 1 by rfl]
      simp [ptc]
theorem plain_pairs (ps : List (Int × Int)) : plainAll (ps.flatMap ptc) = true := by
  unfold plainAll
  rw [List.all_eq_true]
  intro v hv
  obtain ⟨p, _, hp⟩ := List.mem_flatMap.1 hv
  simp only [ptc, List.mem_cons, List.not_mem_nil, or_false] at hp
  rcases hp with rfl | rfl <;> rfl
theorem cut_pairs {ps : List (Int × Int)} {off j m k : Nat} (ho : off = 2 * j) (hm : m = 2 * k) : ((ps.flatMap ptc).drop off).take m = ((ps.drop j).take k).flatMap ptc := by
  subst ho hm
  have hd : ∀ (n : Nat) (l : List (Int × Int)), (l.flatMap ptc).drop (2 * n) = (l.drop n).flatMap ptc := by
    intro n
    induction n with
    | zero => intro l; rfl
    | succ n ih =>
      intro l
      cases l with
      | nil => simp
      | cons p r => rw [List.flatMap_cons, show 2 * (n + 1) = 2 * n + 1 + 1 by omega, List.drop_succ_cons, ← ih r]; simp [ptc]
  have ht : ∀ (n : Nat) (l : List (Int × Int)), (l.flatMap ptc).take (2 * n) = (l.take n).flatMap ptc := by
    intro n
    induction n with
    | zero => intro l; simp
    | succ n ih =>
      intro l
      cases l with
      | nil => simp
      | cons p r => rw [List.flatMap_cons, show 2 * (n + 1) = 2 * n + 1 + 1 by omega, List.take_succ_cons, List.flatMap_cons, ← ih r]; simp [ptc]
  rw [hd, ht]
theorem plain_cut {l : List Value} (h : plainAll l = true) (a b : Nat) : plainAll ((l.drop a).take b) = true := by
  unfold plainAll at *
  rw [List.all_eq_true] at *
  exact fun v hv => h v (List.mem_of_mem_drop (List.mem_of_mem_take hv))
section
variable {C : Ctx} {P : Program} {ops : Array Oper} {S : St} {i : Nat}
theorem does_apg (N k' e z bt k n k2 off2 m : Nat) (b b2 : Blk) (l : List Value) (h1 : apyAt P ops S i = some (e, z, bt, some (.slice (some ⟨k, 0, none⟩) n 0), some (.slice (some ⟨k2, off2, none⟩) m 0)))
    (hH : S.H k = .live b) (hH2 : S.H k2 = .live b2) (hK : S.H k' = .fresh) (hz : (b.own && Nat.beq b.elem e && Nat.beq b.step z) = true) (hp : plainAll b2.cells = true) (hn : n * z ≤ b.cells.length) (ho : off2 + m * z ≤ b2.cells.length)
    (hc : 1 ≤ m ∨ (1 ≤ n ∧ b.cells.length = n * z)) (hB : (n + m) * bt ≤ 140737488355328) (hM : n + m ≤ 4611686018427387904) (hl : b.cells.take (n * z) ++ (b2.cells.drop off2).take (m * z) = l) (hN : n + m = N) :
    Does C P ops i S ⟨[k, k2, k'], .slice (some ⟨k', 0, none⟩) N 0, [(k, .gone), (k', .live ⟨l, e, true, z⟩)]⟩ := by
  subst hN
  unfold apyAt at h1
  split at h1
  · rename_i x y t e' inf zv hs
    simp only [Option.some.injEq, Prod.mk.injEq] at h1
    obtain ⟨rfl, rfl, rfl, hx, hy⟩ := h1
    have hz' := hz
    simp only [Bool.and_eq_true] at hz
    obtain ⟨⟨z1, z2⟩, z3⟩ := hz
    rcases Nat.eq_zero_or_pos m with rfl | hpos
    · rcases hc with hc | ⟨hn1, hc⟩
      · omega
      · rw [Nat.zero_mul, List.take_zero, List.append_nil, List.take_of_length_le (by omega)] at hl
        subst hl
        exact does_append0 hs hx hy hH hK hn1 hz'
    · have h := does_append (C := C) (P := P) (ops := ops) (S := S) (i := i) hs hx hy hH hH2 hK (by
        simp only [Bool.and_eq_true]
        exact ⟨⟨⟨⟨⟨⟨z1, z2⟩, z3⟩, plain_cut hp _ _⟩, Nat.ble_eq_true_of_le (by omega)⟩, Nat.ble_eq_true_of_le ho⟩, Nat.ble_eq_true_of_le hpos⟩) hB hM
      rw [List.drop_zero, hl] at h
      exact h
  · cases h1
def apzAt (P : Program) (ops : Array Oper) (S : St) (i : Nat) : Option (Operand × Operand × TypeId × TypeId × TypeId × IntKind × TypeInfo × Value) := match shapeAt ops S i with
  | some (.call c, true) => match c.callee with
    | .builtin b => match b with
      | .append => match c.args.toList, c.argTypes.toList with
        | [x, y], [t, t'] => match sliceElem P t with
          | some e => match P.underlying t' with
            | some (.int kn) => match P.info? e with
              | some inf => match inf.zero with
                | some z => bif (Nat.beq z.cells.size inf.size && Nat.ble 1 inf.size) then some (x, y, t, t', e, kn, inf, z) else none
                | none => none
              | none => none
            | _ => none
          | none => none
        | _, _ => none
      | _ => none
    | _ => none
  | _ => none
theorem apzAt_spec {x y : Operand} {t t' e : TypeId} {kn : IntKind} {inf : TypeInfo} {z : Value} (h : apzAt P ops S i = some (x, y, t, t', e, kn, inf, z)) :
    shapeAt ops S i = some (.call ⟨.builtin .append, #[x, y], #[t, t']⟩, true) ∧ P.underlying t = some (.slice e) ∧ P.underlying t' = some (.int kn) ∧ P.info? e = some inf ∧ inf.zero = some z ∧ z.cells.size = inf.size ∧ 0 < inf.size := by
  unfold apzAt at h
  split at h
  · rename_i c hsh
    obtain ⟨cal, ars, ats⟩ := c
    simp only at h
    split at h
    · split at h
      · split at h
        · rename_i x' y' t1 t2 hars hats
          split at h
          · rename_i e' he
            split at h
            · rename_i kn' hkn
              split at h
              · rename_i inf' hi
                split at h
                · rename_i z' hz
                  obtain ⟨hq, hh⟩ := bif_some h
                  cases hh
                  rw [Bool.and_eq_true] at hq
                  have ea : ars = #[x, y] := by rw [← Array.toArray_toList (xs := ars), hars]
                  have et : ats = #[t, t'] := by rw [← Array.toArray_toList (xs := ats), hats]
                  subst ea; subst et
                  exact ⟨hsh, sliceElem_spec he, hkn, hi, hz, Nat.eq_of_beq_eq_true hq.1, Nat.le_of_ble_eq_true hq.2⟩
                · cases h
              · cases h
            · cases h
          · cases h
        · cases h
      · cases h
    · cases h
  · cases h
def apzzAt (P : Program) (ops : Array Oper) (S : St) (i : Nat) : Option (Nat × Nat × Nat × Option Value × Option Value) := match apzAt P ops S i with
  | some (x, y, _, _, e, _, inf, _) => some (e, inf.size, inf.bytes, ev S x, ev S y)
  | none => none
theorem does_room (k' e z bt n : Nat) (n' : Int) (kd : IntKind) (h1 : apzzAt P ops S i = some (e, z, bt, some (.slice none 0 0), some (.int kd n'))) (hK : S.H k' = .fresh) (hn : n' = (n : Int)) (h0 : 1 ≤ n)
    (hB : n * bt ≤ 140737488355328) (hM : n ≤ 4611686018427387904) :
    Does C P ops i S ⟨[k'], .slice (some ⟨k', 0, none⟩) n 0, [(k', .live ⟨[], e, true, z⟩)]⟩ := by
  subst hn
  unfold apzzAt at h1
  split at h1
  · rename_i x y t t' e' kn inf zv hs
    simp only [Option.some.injEq, Prod.mk.injEq] at h1
    obtain ⟨rfl, rfl, rfl, hx, hy⟩ := h1
    obtain ⟨hsh, hu, htn, hi, hzv, hzs, hpos⟩ := apzAt_spec hs
    refine .of_run hsh fun o ho S' ρ a w hT hH' hr => ?_
    have hrx := ev_rel hr (by rw [hT x (by simp [Op.operands, Call.operands])]; exact hx)
    have hry := ev_rel hr (by rw [hT y (by simp [Op.operands, Call.operands])]; exact hy)
    generalize hax : a.eval x = ax at hrx
    generalize hay : a.eval y = ay at hry
    cases hrx with
    | nilSlice =>
      cases hry with
      | int =>
        have hrun := Lib.run_append_nil_zeros (P := P) w t t' o.type _ inf zv kd kn hu htn hi hzv n (by omega) hpos (by omega) (by omega)
        obtain ⟨hle, hrel⟩ := Rel.grown hr (by rw [hH' k' (by simp)]; exact hK) (us := []) (vs := []) rfl (fun j u hu => by simp at hu) (Builtin.zeroCells zv.cells n ++ Builtin.zeroCells zv.cells (grownCap w n 0 e' - n)) e' inf.size
        have hge := grownCap_ge w n 0 e'
        have ee : (#[] : Array Value) ++ (Builtin.zeroCells zv.cells n ++ Builtin.zeroCells zv.cells (grownCap w n 0 e' - n)) = Builtin.zeroCells zv.cells n ++ Builtin.zeroCells zv.cells (grownCap w n 0 e' - n) := Array.empty_append
        rw [show ([] : List Value).toArray = #[] from rfl, ee] at hrel hle
        refine ⟨_, _, _, .slice (some ⟨w.heap.size, 0, none⟩) n (grownCap w n 0 e'), ?_, .inl rfl, ?_, hrel⟩
        · have ev1 : (#[x, y] : Array Operand).map a.eval = #[.slice none 0 0, .int kd n] := by simp [hax, hay]
          simp only [execOp, ho, resolve, ev1, Sem.run_bind, Sem.run_pure, Result.andThen_ok, invoke, builtin, hrun]
        · refine .slice k' 0 n 0 (grownCap w n 0 e') _ (upd_self _ _ _) hge ?_
          simp only [Array.size_append, size_zeroCells, hzs, ← Nat.add_mul, Nat.zero_add]
          exact Nat.mul_le_mul_right _ (by omega)
  · cases h1
end
end Go.Proofs.Ytndkhgfecnbmnaa.Am
namespace Go.Proofs.Ytndkhgfecnbmnaa.Am
open Go
set_option linter.unusedVariables false
set_option linter.unusedSimpArgs false
section
variable {C : Ctx} {P : Program} {ops : Array Oper} {S : St} {i : Nat}
theorem RenV.funcL {σ : Nat → Nat} {p : Nat → Prop} {fn : Fn} {xs ys cs ds : Array Value} (h : RenL σ p xs.toList ys.toList) (h' : RenL σ p cs.toList ds.toList) : RenV σ p (.func fn xs cs) (.func fn ys ds) :=
  .func fn xs ys cs ds (by simpa using h.1) (fun i hi => h.2 i _ _ (by simp) (by have := h.1; simp at this; simp)) (by simpa using h'.1) (fun i hi => h'.2 i _ _ (by simp) (by have := h'.1; simp at this; simp))
def slnAt (P : Program) (ops : Array Oper) (S : St) (i : Nat) : Option (Option Value × Option Value) := match shapeAt ops S i with
  | some (.binOp op t x y _, true) => match op with
    | .eql => match sliceElem P t with
      | some _ => some (ev S x, ev S y)
      | none => none
    | _ => none
  | _ => none
theorem does_sln {k off n c : Nat} (h1 : slnAt P ops S i = some (some (.slice (some ⟨k, off, none⟩) n c), some (.slice none 0 0))) (hn : 1 ≤ n) : Does C P ops i S ⟨[], .bool false, []⟩ := by
  unfold slnAt at h1
  split at h1
  · rename_i op t x y t2 hs
    split at h1
    · split at h1
      · rename_i e he
        simp only [Option.some.injEq, Prod.mk.injEq] at h1
        obtain ⟨hx, hy⟩ := h1
        have hu := sliceElem_spec he
        refine .of_run hs fun o ho S' ρ a w hT hH' hr => ?_
        have hrx := ev_rel hr (by rw [hT x (by simp [Op.operands])]; exact hx)
        have hry := ev_rel hr (by rw [hT y (by simp [Op.operands])]; exact hy)
        generalize hax : a.eval x = ax at hrx
        generalize hay : a.eval y = ay at hry
        cases hry with
        | nilSlice =>
          cases hrx with
          | slice0 => omega
          | slice _ _ _ _ cap sp hk hc1 hs1 =>
            refine ⟨_, w, ρ, .bool false, ?_, .inl rfl, .bool _, hr⟩
            have hg : (eqGuard .eql t x y (.slice (some ⟨sp.block, sp.off + off, none⟩) n cap) (.slice none 0 0)).run P w = .ok () w := by
              simp [eqGuard]
            have he : (Op.equal t (.slice (some ⟨sp.block, sp.off + off, none⟩) n cap) (.slice none 0 0)).run P w = .ok false w := by
              have key : ∀ d : Nat, (Op.equalIn (d + 1) t (.slice (some ⟨sp.block, sp.off + off, none⟩) n cap) (.slice none 0 0)).run P w = .ok false w := fun d => by simp [Op.equalIn, run_underlying hu]
              exact key 9999
            simp [execOp, ho, hax, hay, hg, binOp, he]
      · cases h1
    · cases h1
  · cases h1
end
end Go.Proofs.Ytndkhgfecnbmnaa.Am
namespace Go.Proofs.Ytndkhgfecnbmnaa.Am
open Go
set_option linter.unusedVariables false
set_option linter.unusedSimpArgs false
end Go.Proofs.Ytndkhgfecnbmnaa.Am

namespace Go.Proofs.Ytndkhgfecnbmnaa.Am
open Go Go.Proofs
set_option maxRecDepth 100000
set_option maxHeartbeats 4000000
set_option linter.unusedVariables false
set_option linter.unusedSimpArgs false
abbrev pB (l : List (Int × Int)) : Blk := ⟨l.flatMap ptc, 28, true, 2⟩
abbrev sV (b n : Nat) : Value := .slice (some ⟨b, 0, none⟩) n 0
theorem rF {σ : Nat → Nat} {p : Nat → Prop} {v : Value} (h : flatB v = true := by kernel_rfl) : RenV σ p v v := .flatB h
theorem rS {σ : Nat → Nat} {p : Nat → Prop} {b o n c c' : Nat} (h : p b := by decide) : RenV σ p (.slice (some ⟨b, o, none⟩) n c) (.slice (some ⟨σ b, o, none⟩) n c') := .slice _ _ _ _ _ h
theorem rK {σ : Nat → Nat} {p : Nat → Prop} {b o n c c' : Nat} (h : p b) : RenV σ p (.slice (some ⟨b, o, none⟩) n c) (.slice (some ⟨σ b, o, none⟩) n c') := .slice _ _ _ _ _ h
theorem bP {σ : Nat → Nat} {p : Nat → Prop} {l : List (Int × Int)} : RenB σ p (pB l) (pB l) := ⟨rfl, rfl, rfl, .flats (flats_pair _)⟩
section
variable {C : Ctx} {P : Program} {ops : Array Oper} {i : Nat} {S : St} {g m : Nat} {args0 : List Value} {pre0 post0 : List (Nat × Blk)} {v0 : Value}
theorem cF (ars : Array Operand) (ats : Array TypeId) (vs : List Value) (r : Nat) (sl : List Nat) (pre post : List (Nat × Blk)) (v : Value) (ac : AC P g m args0 pre0 v0 post0) (ha : RenL (fun j => sl.getD j 0) (· < m) args0 vs)
    (hpre : RenH (fun j => sl.getD j 0) (· < m) pre0 pre) (hpost : RenH (fun j => sl.getD j 0) (· < m + r) post0 post) (hv : RenV (fun j => sl.getD j 0) (· < m + r) v0 v)
    (hs : shapeAt ops S i = some (.call ⟨.value (.func g), ars, ats⟩, true) := by kernel_rfl) (hf : ev S (.func g) = some (.func (.func g) #[] #[]) := by kernel_rfl) (hargs : evs S ars.toList = some vs := by kernel_rfl) (hg : callB P g = true := by kernel_rfl)
    (hpreS : pre.map (fun x => S.H x.1) = pre.map (fun x => .live x.2) := by kernel_rfl) (hk : callChk m r (pre0.map (·.1)) (post0.map (·.1)) sl (ownKeys pre) = true := by kernel_rfl)
    (hnew : (List.range' m r).map (fun j => S.H (sl.getD j 0)) = (List.range' m r).map (fun _ => .fresh) := by kernel_rfl) :
    Does C P ops i S ⟨pre.map (·.1) ++ (List.range' m r).map (fun j => sl.getD j 0), v, writesOf pre post⟩ :=
  does_callB (firsts := #[]) (caps := #[]) sl hs hf hargs hg ac (by simpa using ha) hpre hpreS hk hnew hpost hv
theorem cS (ars : Array Operand) (ats : Array TypeId) (vs : List Value) (sl : List Nat) (pre : List (Nat × Blk)) (v : Value) (ac : AC P g m args0 pre0 v0 pre0) (ha : RenL (fun j => sl.getD j 0) (· < m) args0 vs)
    (hpre : RenH (fun j => sl.getD j 0) (· < m) pre0 pre) (hv : RenV (fun j => sl.getD j 0) (· < m) v0 v)
    (hs : shapeAt ops S i = some (.call ⟨.value (.func g), ars, ats⟩, true) := by kernel_rfl) (hf : ev S (.func g) = some (.func (.func g) #[] #[]) := by kernel_rfl) (hargs : evs S ars.toList = some vs := by kernel_rfl) (hg : callB P g = true := by kernel_rfl)
    (hpreS : pre.map (fun x => S.H x.1) = pre.map (fun x => .live x.2) := by kernel_rfl) (hk : callChk m 0 (pre0.map (·.1)) (pre0.map (·.1)) sl (ownKeys pre) = true := by kernel_rfl) :
    Does C P ops i S ⟨pre.map (·.1) ++ (List.range' m 0).map (fun j => sl.getD j 0), v, writesOf pre pre⟩ :=
  does_callB (firsts := #[]) (caps := #[]) sl hs hf hargs hg ac (by simpa using ha) hpre hpreS hk rfl hpre hv
end
end Go.Proofs.Ytndkhgfecnbmnaa.Am
