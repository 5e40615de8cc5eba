import Derived.Test.YtigllakcfdoagaaSp3
namespace Go.Proofs.Ytigllakcfdoagaa.Am.Sp
/-! The curve: places and points -/
def pw (j : Nat) : Int := 2 ^ j
def p4 (j : Nat) : Int := 4 ^ j
theorem pw_succ (j : Nat) : pw (j + 1) = 2 * pw j := by unfold pw; rw [Int.pow_succ]; omega
theorem p4_succ (j : Nat) : p4 (j + 1) = 4 * p4 j := by unfold p4; rw [Int.pow_succ]; omega
theorem pw_pos (j : Nat) : 0 < pw j := by induction j with | zero => decide | succ n ih => rw [pw_succ]; omega
theorem p4_pos (j : Nat) : 0 < p4 j := by induction j with | zero => decide | succ n ih => rw [p4_succ]; omega
theorem pw_sq (j : Nat) : pw j * pw j = p4 j := by
  induction j with
  | zero => decide
  | succ n ih => rw [pw_succ, p4_succ, ← ih]; grind
theorem pw_add (m k : Nat) : pw (m + k) = pw m * pw k := by unfold pw; exact Int.pow_add _ _ _
theorem p4_add (m k : Nat) : p4 (m + k) = p4 m * p4 k := by unfold p4; exact Int.pow_add _ _ _
theorem pw_mono {j k : Nat} (h : j ≤ k) : pw j ≤ pw k := by
  induction h with
  | refl => exact Int.le_refl _
  | step _ ih => rw [pw_succ]; have := pw_pos j; omega
theorem p4_mono {j k : Nat} (h : j ≤ k) : p4 j ≤ p4 k := by
  induction h with
  | refl => exact Int.le_refl _
  | step _ ih => rw [p4_succ]; have := p4_pos j; omega
def tx (x y s r u : Int) : Int := if u = 1 then x else if r = 1 then s - 1 - y else y
def ty (x y s r u : Int) : Int := if u = 1 then y else if r = 1 then s - 1 - x else x
def dg (r u : Int) : Int := if r = 0 then (if u = 0 then 0 else 1) else if u = 0 then 3 else 2
def rdg (d : Int) : Int := d / 2
def udg (d : Int) : Int := (d + d / 2) % 2
theorem t_bd {x y s r u : Int} (h1 : 0 ≤ x ∧ x < s) (h2 : 0 ≤ y ∧ y < s) : (0 ≤ tx x y s r u ∧ tx x y s r u < s) ∧ (0 ≤ ty x y s r u ∧ ty x y s r u < s) := by
  unfold tx ty; (repeat' split) <;> omega
theorem t_inv (x y s r u : Int) : tx (tx x y s r u) (ty x y s r u) s r u = x ∧ ty (tx x y s r u) (ty x y s r u) s r u = y := by
  unfold tx ty; (repeat' split) <;> omega
theorem rdg_bd {d : Int} (h : 0 ≤ d ∧ d < 4) : (rdg d = 0 ∨ rdg d = 1) ∧ (udg d = 0 ∨ udg d = 1) ∧ dg (rdg d) (udg d) = d := by
  have : d = 0 ∨ d = 1 ∨ d = 2 ∨ d = 3 := by omega
  rcases this with rfl | rfl | rfl | rfl <;> decide
theorem dg_bd {r u : Int} (hr : r = 0 ∨ r = 1) (hu : u = 0 ∨ u = 1) : (0 ≤ dg r u ∧ dg r u < 4) ∧ rdg (dg r u) = r ∧ udg (dg r u) = u := by
  rcases hr with rfl | rfl <;> rcases hu with rfl | rfl <;> decide
def idx : Nat → Int → Int → Int
  | 0, _, _ => 0
  | j + 1, x, y => pw j * pw j * dg (x / pw j) (y / pw j) + idx j (tx (x % pw j) (y % pw j) (pw j) (x / pw j) (y / pw j)) (ty (x % pw j) (y % pw j) (pw j) (x / pw j) (y / pw j))
def pos : Nat → Int → Int × Int
  | 0, _ => (0, 0)
  | j + 1, n => (tx (pos j n).1 (pos j n).2 (pw j) (rdg (n / p4 j % 4)) (udg (n / p4 j % 4)) + pw j * rdg (n / p4 j % 4), ty (pos j n).1 (pos j n).2 (pw j) (rdg (n / p4 j % 4)) (udg (n / p4 j % 4)) + pw j * udg (n / p4 j % 4))
theorem quo01 {x s : Int} (hs : 0 < s) (h : 0 ≤ x ∧ x < 2 * s) : (x / s = 0 ∧ x % s = x ∧ x < s) ∨ (x / s = 1 ∧ x % s = x - s ∧ s ≤ x) := by
  rcases Int.lt_or_le x s with q | q
  · exact .inl ⟨Int.ediv_eq_zero_of_lt h.1 q, Int.emod_eq_of_lt h.1 q, q⟩
  · have e1 : x / s = 1 := by
      rw [show x = (x - s) + s * 1 by omega, Int.add_mul_ediv_left _ _ (by omega), Int.ediv_eq_zero_of_lt (by omega) (by omega)]; rfl
    have := Int.mul_ediv_add_emod x s
    rw [e1] at this
    exact .inr ⟨e1, by omega, q⟩
theorem idx_bd : ∀ (j : Nat) {x y : Int}, (0 ≤ x ∧ x < pw j) → (0 ≤ y ∧ y < pw j) → 0 ≤ idx j x y ∧ idx j x y < p4 j := by
  intro j
  induction j with
  | zero => intro x y _ _; exact ⟨by show (0 : Int) ≤ 0; omega, by show (0 : Int) < 1; omega⟩
  | succ j ih =>
    intro x y hx hy
    rw [pw_succ] at hx hy
    have hp := pw_pos j
    have hm := fun z => emod_bd z hp
    have hb := ih (t_bd (s := pw j) (r := x / pw j) (u := y / pw j) (hm x) (hm y)).1 (t_bd (s := pw j) (r := x / pw j) (u := y / pw j) (hm x) (hm y)).2
    have d := (dg_bd (r := x / pw j) (u := y / pw j) (by rcases quo01 hp hx with q | q <;> omega) (by rcases quo01 hp hy with q | q <;> omega)).1
    unfold idx
    rw [p4_succ, pw_sq]
    have h4 := p4_pos j
    generalize dg (x / pw j) (y / pw j) = e at *
    have : e = 0 ∨ e = 1 ∨ e = 2 ∨ e = 3 := by omega
    rcases this with rfl | rfl | rfl | rfl <;> omega
theorem pos_bd (n : Int) : ∀ (j : Nat), (0 ≤ (pos j n).1 ∧ (pos j n).1 < pw j) ∧ (0 ≤ (pos j n).2 ∧ (pos j n).2 < pw j) := by
  intro j
  induction j with
  | zero => exact ⟨⟨by show (0 : Int) ≤ 0; omega, by show (0 : Int) < 1; omega⟩, by show (0 : Int) ≤ 0; omega, by show (0 : Int) < 1; omega⟩
  | succ j ih =>
    have d := rdg_bd (emod_bd (n / p4 j) (n := 4) (by decide))
    have t := t_bd (s := pw j) (r := rdg (n / p4 j % 4)) (u := udg (n / p4 j % 4)) ih.1 ih.2
    rw [pw_succ]
    simp only [pos]
    rcases d with ⟨d1 | d1, d2 | d2, _⟩ <;> rw [d1, d2] at t ⊢ <;> omega
theorem emod_p4 (n : Int) (j : Nat) : n % p4 (j + 1) = p4 j * (n / p4 j % 4) + n % p4 j := by
  have hp := p4_pos j
  rw [p4_succ]
  have e1 := Int.mul_ediv_add_emod n (p4 j)
  have e2 := Int.mul_ediv_add_emod (n / p4 j) 4
  have e3 : n = (p4 j * (n / p4 j % 4) + n % p4 j) + 4 * p4 j * (n / p4 j / 4) := by
    generalize n / p4 j = q at *
    rw [← e2] at e1
    rw [Int.mul_add] at e1
    have : 4 * p4 j * (q / 4) = p4 j * (4 * (q / 4)) := by grind
    generalize hd : q / 4 = a at *
    omega
  have b1 := emod_bd n hp
  have b2 := emod_bd (n / p4 j) (n := 4) (by decide)
  have b3 : 0 ≤ p4 j * (n / p4 j % 4) ∧ p4 j * (n / p4 j % 4) ≤ p4 j * 3 := ⟨Int.mul_nonneg (by omega) b2.1, Int.mul_le_mul_of_nonneg_left (by omega) (by omega)⟩
  generalize hA : p4 j * (n / p4 j % 4) + n % p4 j = A at *
  generalize n / p4 j / 4 = B at *
  rw [e3, Int.add_mul_emod_self_left]
  exact Int.emod_eq_of_lt (by omega) (by omega)
theorem idx_pos (n : Int) : ∀ (j : Nat), idx j (pos j n).1 (pos j n).2 = n % p4 j := by
  intro j
  induction j with
  | zero => show (0 : Int) = n % 1; omega
  | succ j ih =>
    have hd := emod_bd (n / p4 j) (n := 4) (by decide)
    have d := rdg_bd hd
    have b := pos_bd n j
    have t := t_bd (s := pw j) (r := rdg (n / p4 j % 4)) (u := udg (n / p4 j % 4)) b.1 b.2
    have i := t_inv (pos j n).1 (pos j n).2 (pw j) (rdg (n / p4 j % 4)) (udg (n / p4 j % 4))
    have hp := pw_pos j
    rw [emod_p4]
    simp only [pos, idx]
    generalize hX : tx (pos j n).1 (pos j n).2 (pw j) (rdg (n / p4 j % 4)) (udg (n / p4 j % 4)) = X at *
    generalize hY : ty (pos j n).1 (pos j n).2 (pw j) (rdg (n / p4 j % 4)) (udg (n / p4 j % 4)) = Y at *
    have q : ∀ {Z r : Int}, (0 ≤ Z ∧ Z < pw j) → (r = 0 ∨ r = 1) → (Z + pw j * r) / pw j = r ∧ (Z + pw j * r) % pw j = Z := by
      intro Z r hz hr
      rw [Int.add_mul_ediv_left _ _ (by omega), Int.add_mul_emod_self_left, Int.ediv_eq_zero_of_lt hz.1 hz.2, Int.emod_eq_of_lt hz.1 hz.2]; omega
    rw [(q t.1 d.1).1, (q t.1 d.1).2, (q t.2 d.2.1).1, (q t.2 d.2.1).2, i.1, i.2, ih, d.2.2, pw_sq]
theorem pos_low (n m : Int) (j : Nat) : pos j (n + p4 j * m) = pos j n := by
  induction j generalizing m with
  | zero => rfl
  | succ j ih =>
    have h4 := p4_pos j
    have e : n + p4 (j + 1) * m = n + p4 j * (4 * m) := by rw [p4_succ]; grind
    rw [e]
    have e2 : (n + p4 j * (4 * m)) / p4 j % 4 = n / p4 j % 4 := by rw [Int.add_mul_ediv_left _ _ (by omega)]; omega
    simp only [pos, ih, e2]
theorem pos_idx : ∀ (j : Nat) {x y : Int}, (0 ≤ x ∧ x < pw j) → (0 ≤ y ∧ y < pw j) → pos j (idx j x y) = (x, y) := by
  intro j
  induction j with
  | zero => intro x y h1 h2; have : pw 0 = 1 := rfl; have a : x = 0 := by omega
            have b : y = 0 := by omega
            subst a b; rfl
  | succ j ih =>
    intro x y hx hy
    rw [pw_succ] at hx hy
    have hp := pw_pos j
    have h4 := p4_pos j
    have hm := fun z => emod_bd z hp
    have t := t_bd (s := pw j) (r := x / pw j) (u := y / pw j) (hm x) (hm y)
    have ib := idx_bd j t.1 t.2
    have ih' := ih t.1 t.2
    have d := dg_bd (r := x / pw j) (u := y / pw j) (by rcases quo01 hp hx with q | q <;> omega) (by rcases quo01 hp hy with q | q <;> omega)
    have i := t_inv (x % pw j) (y % pw j) (pw j) (x / pw j) (y / pw j)
    simp only [idx]
    rw [pw_sq]
    generalize hI : idx j (tx (x % pw j) (y % pw j) (pw j) (x / pw j) (y / pw j)) (ty (x % pw j) (y % pw j) (pw j) (x / pw j) (y / pw j)) = I at *
    generalize hD : dg (x / pw j) (y / pw j) = D at *
    rw [Int.add_comm]
    have e2 : (I + p4 j * D) / p4 j % 4 = D := by rw [Int.add_mul_ediv_left _ _ (by omega), Int.ediv_eq_zero_of_lt ib.1 ib.2]; omega
    simp only [pos, pos_low, e2, ih', d.2.1, d.2.2, i.1, i.2]
    have a := Int.mul_ediv_add_emod x (pw j); have b := Int.mul_ediv_add_emod y (pw j)
    exact Prod.ext (by show _ = x; omega) (by show _ = y; omega)
theorem pos_zero (j : Nat) : pos j 0 = (0, 0) := by
  induction j with
  | zero => rfl
  | succ j ih => simp only [pos, ih, Int.zero_ediv]; simp [tx, ty, rdg, udg]
theorem pos_last (j : Nat) : pos j (p4 j - 1) = (pw j - 1, 0) := by
  induction j with
  | zero => rfl
  | succ j ih =>
    have h4 := p4_pos j
    have e : p4 (j + 1) - 1 = (p4 j - 1) + p4 j * 3 := by rw [p4_succ]; omega
    have e2 : (p4 j - 1 + p4 j * 3) / p4 j % 4 = 3 := by rw [Int.add_mul_ediv_left _ _ (by omega), Int.ediv_eq_zero_of_lt (by omega) (by omega)]; rfl
    rw [e]
    simp only [pos, pos_low, e2, ih, pw_succ]
    exact Prod.ext (by show tx _ _ _ 1 0 + pw j * 1 = _; unfold tx; simp; omega) (by show ty _ _ _ 1 0 + pw j * 0 = _; unfold ty; simp)
def nb (a b c d : Int) : Prop := (a = c ∧ (b = d + 1 ∨ d = b + 1)) ∨ (b = d ∧ (a = c + 1 ∨ c = a + 1))
theorem pos_step : ∀ (j : Nat) {n : Int}, 0 ≤ n → n + 1 < p4 j → nb (pos j n).1 (pos j n).2 (pos j (n + 1)).1 (pos j (n + 1)).2 := by
  intro j
  induction j with
  | zero => intro n h1 h2; have : p4 0 = 1 := rfl; omega
  | succ j ih =>
    intro n h1 h2
    rw [p4_succ] at h2
    have h4 := p4_pos j
    have hp := pw_pos j
    have e := Int.mul_ediv_add_emod n (p4 j)
    have b := emod_bd n h4
    generalize hq : n / p4 j = q at *
    generalize hr : n % p4 j = r at *
    have q0 : 0 ≤ q := by rw [← hq]; exact Int.ediv_nonneg h1 (by omega)
    have q4 : q < 4 := by rw [← hq]; exact Int.ediv_lt_of_lt_mul h4 (by omega)
    have en : n = r + p4 j * q := by omega
    have en1 : n + 1 = (r + 1) + p4 j * q := by omega
    have d0 : n / p4 j % 4 = q := by rw [hq]; omega
    have pn : pos j n = pos j r := by rw [en]; exact pos_low _ _ _
    rcases Int.lt_or_le (r + 1) (p4 j) with h | h
    · have d1 : (n + 1) / p4 j % 4 = q := by rw [en1, Int.add_mul_ediv_left _ _ (by omega), Int.ediv_eq_zero_of_lt (by omega) h]; omega
      have pn1 : pos j (n + 1) = pos j (r + 1) := by rw [en1]; exact pos_low _ _ _
      have i := ih b.1 h
      simp only [pos, d0, d1, pn, pn1]
      unfold nb at i ⊢
      unfold tx ty
      (repeat' split) <;> omega
    · have er : r = p4 j - 1 := by omega
      have en2 : n + 1 = 0 + p4 j * (q + 1) := by rw [Int.mul_add]; omega
      have q3 : q + 1 < 4 := by
        rcases Int.lt_or_le (q + 1) 4 with g | g
        · exact g
        · have : p4 j * 4 ≤ p4 j * (q + 1) := Int.mul_le_mul_of_nonneg_left g (by omega)
          omega
      have d1 : (n + 1) / p4 j % 4 = q + 1 := by rw [en2, Int.add_mul_ediv_left _ _ (by omega)]; simp; omega
      have pn1 : pos j (n + 1) = (0, 0) := by rw [en2, pos_low, pos_zero]
      have pn0 : pos j n = (pw j - 1, 0) := by rw [pn, er, pos_last]
      simp only [pos, d0, d1, pn0, pn1]
      have : q = 0 ∨ q = 1 ∨ q = 2 := by omega
      unfold nb
      rcases this with rfl | rfl | rfl <;> simp [tx, ty, rdg, udg] <;> omega
theorem div_mod_pw (x : Int) (m k : Nat) : x / pw k / pw m = x / pw (m + k) ∧ x / pw k % pw m = x % pw (m + k) / pw k := by
  have hk := pw_pos k
  have hm := pw_pos m
  have e1 : x / pw k / pw m = x / pw (m + k) := by rw [pw_add, Int.mul_comm, Int.ediv_ediv_of_nonneg (by omega)]
  refine ⟨e1, ?_⟩
  have a := Int.mul_ediv_add_emod (x / pw k) (pw m)
  have b := Int.mul_ediv_add_emod x (pw (m + k))
  rw [e1] at a
  have c : x % pw (m + k) / pw k = x / pw k - pw m * (x / pw (m + k)) := by
    have : x % pw (m + k) = x + pw k * (-(pw m * (x / pw (m + k)))) := by
      have : pw (m + k) * (x / pw (m + k)) = pw k * (pw m * (x / pw (m + k))) := by rw [pw_add]; grind
      rw [Int.mul_neg]; omega
    rw [this, Int.add_mul_ediv_left _ _ (by omega)]; omega
  omega
theorem t_div {a b r u : Int} (m k : Nat) (_ha : 0 ≤ a ∧ a < pw (m + k)) (_hb : 0 ≤ b ∧ b < pw (m + k)) : tx (a / pw k) (b / pw k) (pw m) r u = tx a b (pw (m + k)) r u / pw k ∧ ty (a / pw k) (b / pw k) (pw m) r u = ty a b (pw (m + k)) r u / pw k := by
  have hk := pw_pos k
  have key : ∀ z : Int, (pw (m + k) - 1 - z) / pw k = pw m - 1 - z / pw k := by
    intro z
    have e := Int.mul_ediv_add_emod z (pw k)
    have b := emod_bd z hk
    have : pw (m + k) - 1 - z = (pw k - 1 - z % pw k) + pw k * (pw m - 1 - z / pw k) := by
      rw [pw_add, Int.mul_sub, Int.mul_sub, Int.mul_comm (pw m)]; omega
    rw [this, Int.add_mul_ediv_left _ _ (by omega), Int.ediv_eq_zero_of_lt (by omega) (by omega)]; omega
  unfold tx ty
  constructor
  · split
    · rfl
    · split
      · rw [key]
      · rfl
  · split
    · rfl
    · split
      · rw [key]
      · rfl
theorem idx_div (k : Nat) : ∀ (m : Nat) {x y : Int}, (0 ≤ x ∧ x < pw (m + k)) → (0 ≤ y ∧ y < pw (m + k)) → idx (m + k) x y / p4 k = idx m (x / pw k) (y / pw k) := by
  intro m
  induction m with
  | zero =>
    intro x y hx hy
    rw [Nat.zero_add] at *
    have := idx_bd k hx hy
    rw [Int.ediv_eq_zero_of_lt this.1 this.2]; rfl
  | succ m ih =>
    intro x y hx hy
    have e : m + 1 + k = (m + k) + 1 := by omega
    rw [e] at hx hy ⊢
    have hp := pw_pos (m + k)
    have h4 := p4_pos k
    have hm := fun z => emod_bd z hp
    have t := t_bd (s := pw (m + k)) (r := x / pw (m + k)) (u := y / pw (m + k)) (hm x) (hm y)
    have i := ih t.1 t.2
    have td := t_div (r := x / pw (m + k)) (u := y / pw (m + k)) m k (hm x) (hm y)
    simp only [idx]
    rw [(div_mod_pw x m k).1, (div_mod_pw x m k).2, (div_mod_pw y m k).1, (div_mod_pw y m k).2, td.1, td.2, ← i, pw_sq, pw_sq, p4_add]
    rw [Int.add_comm, show p4 m * p4 k * dg (x / pw (m + k)) (y / pw (m + k)) = p4 k * (p4 m * dg (x / pw (m + k)) (y / pw (m + k))) by grind, Int.add_mul_ediv_left _ _ (by omega)]
    omega
theorem idx_inj {j : Nat} {x y x' y' : Int} (h1 : 0 ≤ x ∧ x < pw j) (h2 : 0 ≤ y ∧ y < pw j) (h3 : 0 ≤ x' ∧ x' < pw j) (h4 : 0 ≤ y' ∧ y' < pw j) : idx j x y = idx j x' y' ↔ x = x' ∧ y = y' := by
  constructor
  · intro h
    have a := pos_idx j h1 h2
    have b := pos_idx j h3 h4
    rw [h, b] at a
    exact ⟨(congrArg Prod.fst a).symm, (congrArg Prod.snd a).symm⟩
  · rintro ⟨rfl, rfl⟩; rfl
end Go.Proofs.Ytigllakcfdoagaa.Am.Sp
namespace Go.Proofs.Ytigllakcfdoagaa.Am.Sp
def sd : Nat → Int
  | 0 => 0
  | j + 1 => pw j
theorem sd_pos {j : Nat} (h : sd j > 0) : ∃ i, j = i + 1 ∧ sd j = pw i := by
  cases j with
  | zero => exact absurd h (by decide)
  | succ i => exact ⟨i, rfl, rfl⟩
theorem sd_zero {j : Nat} (h : ¬ sd j > 0) : j = 0 := by
  cases j with
  | zero => rfl
  | succ i => exact absurd (pw_pos i) h
theorem sd_half (i : Nat) : pw i / 2 = sd i := by
  cases i with
  | zero => rfl
  | succ i => rw [pw_succ]; show _ = pw i; omega
theorem idx_round {i : Nat} {x y : Int} (hi : i + 1 ≤ 22) (hx : 0 ≤ x ∧ x < pw (i + 1)) (hy : 0 ≤ y ∧ y < pw (i + 1)) :
    (x / pw i = 0 ∨ x / pw i = 1) ∧ (y / pw i = 0 ∨ y / pw i = 1) ∧ (0 ≤ x % pw i ∧ x % pw i < pw i) ∧ (0 ≤ y % pw i ∧ y % pw i < pw i) ∧
    (0 ≤ pw i * pw i * dg (x / pw i) (y / pw i) ∧ pw i * pw i * dg (x / pw i) (y / pw i) ≤ 17592186044416) ∧
    idx (i + 1) x y = pw i * pw i * dg (x / pw i) (y / pw i) + idx i (tx (x % pw i) (y % pw i) (pw i) (x / pw i) (y / pw i)) (ty (x % pw i) (y % pw i) (pw i) (x / pw i) (y / pw i)) ∧
    0 ≤ idx i (tx (x % pw i) (y % pw i) (pw i) (x / pw i) (y / pw i)) (ty (x % pw i) (y % pw i) (pw i) (x / pw i) (y / pw i)) ∧
    (0 ≤ tx (x % pw i) (y % pw i) (pw i) (x / pw i) (y / pw i) ∧ tx (x % pw i) (y % pw i) (pw i) (x / pw i) (y / pw i) < pw i) ∧ (0 ≤ ty (x % pw i) (y % pw i) (pw i) (x / pw i) (y / pw i) ∧ ty (x % pw i) (y % pw i) (pw i) (x / pw i) (y / pw i) < pw i) ∧
    (0 < pw i ∧ pw i ≤ 2097152) ∧ (0 ≤ pw i * pw i ∧ pw i * pw i ≤ 4398046511104) ∧ (x < 4194304 ∧ y < 4194304) := by
  have hp := pw_pos i
  have hpm : pw i ≤ pw 21 := pw_mono (by omega)
  have h21 : pw 21 = 2097152 := by decide
  have h4m : p4 i ≤ p4 21 := p4_mono (by omega)
  have h421 : p4 21 = 4398046511104 := by decide
  have h4 := p4_pos i
  rw [pw_succ] at hx hy
  have hm := fun z => emod_bd z hp
  have t := t_bd (s := pw i) (r := x / pw i) (u := y / pw i) (hm x) (hm y)
  have ib := idx_bd i t.1 t.2
  have r01 : x / pw i = 0 ∨ x / pw i = 1 := by rcases quo01 hp hx with q | q <;> omega
  have u01 : y / pw i = 0 ∨ y / pw i = 1 := by rcases quo01 hp hy with q | q <;> omega
  have d := (dg_bd r01 u01).1
  have db : 0 ≤ pw i * pw i * dg (x / pw i) (y / pw i) ∧ pw i * pw i * dg (x / pw i) (y / pw i) ≤ pw i * pw i * 4 := by
    rw [pw_sq]; exact ⟨Int.mul_nonneg (by omega) d.1, Int.mul_le_mul_of_nonneg_left (by omega) (by omega)⟩
  have sq := pw_sq i
  exact ⟨r01, u01, hm x, hm y, by omega, rfl, ib.1, t.1, t.2, by omega, by omega, by omega⟩
theorem pos_round {k : Nat} {n m : Int} (hm : m = n / p4 k) : tx (pos k n).1 (pos k n).2 (pw k) (m / 2 % 2) ((m + m / 2) % 2) + pw k * (m / 2 % 2) = (pos (k + 1) n).1 ∧ ty (pos k n).1 (pos k n).2 (pw k) (m / 2 % 2) ((m + m / 2) % 2) + pw k * ((m + m / 2) % 2) = (pos (k + 1) n).2 ∧ m / 4 = n / p4 (k + 1) := by
  have e1 : rdg (n / p4 k % 4) = m / 2 % 2 := by unfold rdg; rw [← hm]; omega
  have e2 : udg (n / p4 k % 4) = (m + m / 2) % 2 := by unfold udg; rw [← hm]; omega
  refine ⟨by simp only [pos]; rw [e1, e2], by simp only [pos]; rw [e1, e2], ?_⟩
  have := p4_pos k
  rw [hm, p4_succ, Int.ediv_ediv_of_nonneg (by omega), Int.mul_comm]
theorem pw_lt {k : Nat} (hk : k ≤ 22) : (pw k < 4194304 → k < 22) ∧ (¬ pw k < 4194304 → k = 22) ∧ (0 < pw k ∧ pw k ≤ 4194304) := by
  have h22 : pw 22 = 4194304 := by decide
  have h21 : pw 21 = 2097152 := by decide
  have hp := pw_pos k
  have hm : pw k ≤ pw 22 := pw_mono hk
  refine ⟨fun h => ?_, fun h => ?_, hp, by omega⟩
  · rcases Nat.lt_or_ge k 22 with g | g
    · exact g
    · have : k = 22 := by omega
      subst this; omega
  · rcases Nat.lt_or_ge k 22 with g | g
    · have : pw k ≤ pw 21 := pw_mono (by omega)
      omega
    · omega
def index (x y : Int) : Int := idx 22 (lim 1048576 x + 1048576) (lim 1048576 y + 1048576)
def okb (x y : Int) : Bool := (x == lim 1048576 x) && ((y == lim 1048576 y) && true)
def ofe (n : Int) : Int := if n < 0 ∨ n ≥ 17592186044416 then 1 else if okb ((pos 22 n).1 - 1048576) ((pos 22 n).2 - 1048576) = true then 0 else 17
def ofx (n : Int) : Int := if ofe n = 0 then (pos 22 n).1 - 1048576 else 0
def ofy (n : Int) : Int := if ofe n = 0 then (pos 22 n).2 - 1048576 else 0
theorem okb_iff (x y : Int) : okb x y = true ↔ (-1048576 ≤ x ∧ x ≤ 1048576) ∧ (-1048576 ≤ y ∧ y ≤ 1048576) := by
  unfold okb lim
  rw [Bool.and_eq_true, Bool.and_eq_true, beq_iff_eq, beq_iff_eq]
  simp only [and_true]
  omega
theorem ofe_zero {n : Int} (h : ofe n = 0) : (0 ≤ n ∧ n < 17592186044416) ∧ okb ((pos 22 n).1 - 1048576) ((pos 22 n).2 - 1048576) = true := by
  unfold ofe at h
  split at h
  · omega
  · split at h
    · exact ⟨by omega, by assumption⟩
    · omega
theorem ofe_cases {n : Int} (h : 0 ≤ n ∧ n < 17592186044416) : ofe n = 0 ∨ ofe n = 17 := by
  unfold ofe; rw [if_neg (by omega)]; split <;> simp
theorem of_step {n : Int} (h : ofe n = 0) (g : ofe (n + 1) = 0) : dot (lim 1048576 (ofx n)) (lim 1048576 (ofy n)) (lim 1048576 (ofx (n + 1))) (lim 1048576 (ofy (n + 1))) (lim 1048576 (ofx (n + 1))) (lim 1048576 (ofy (n + 1))) = 1 := by
  obtain ⟨a, b⟩ := ofe_zero h
  obtain ⟨a', b'⟩ := ofe_zero g
  have b1 := (okb_iff _ _).1 b
  have b2 := (okb_iff _ _).1 b'
  have s := pos_step 22 (n := n) a.1 (by have : p4 22 = 17592186044416 := by decide
                                         omega)
  unfold ofx ofy
  rw [if_pos h, if_pos h, if_pos g, if_pos g]
  rw [lim_id b1.1.1 b1.1.2, lim_id b1.2.1 b1.2.2, lim_id b2.1.1 b2.1.2, lim_id b2.2.1 b2.2.2]
  unfold nb at s
  unfold dot
  generalize (pos 22 n).1 = p at *; generalize (pos 22 n).2 = q at *; generalize (pos 22 (n + 1)).1 = r at *; generalize (pos 22 (n + 1)).2 = t at *
  rcases s with ⟨rfl, rfl | rfl⟩ | ⟨rfl, rfl | rfl⟩ <;> grind
theorem index_bd (x y : Int) : 0 ≤ index x y ∧ index x y < 17592186044416 := by
  have h1 := lim_bd (m := 1048576) (by decide) x
  have h2 := lim_bd (m := 1048576) (by decide) y
  have e : pw 22 = 4194304 := by decide
  have e4 : p4 22 = 17592186044416 := by decide
  unfold index
  rw [← e4]
  exact idx_bd 22 (by omega) (by omega)
theorem of_index (x y : Int) : ofe (index x y) = 0 ∧ ofx (index x y) = lim 1048576 x ∧ ofy (index x y) = lim 1048576 y := by
  have h1 := lim_bd (m := 1048576) (by decide) x
  have h2 := lim_bd (m := 1048576) (by decide) y
  have e : pw 22 = 4194304 := by decide
  have p : pos 22 (index x y) = (lim 1048576 x + 1048576, lim 1048576 y + 1048576) := by unfold index; exact pos_idx 22 (by omega) (by omega)
  have b := index_bd x y
  have z : ofe (index x y) = 0 := by
    unfold ofe
    rw [if_neg (by omega), if_pos]
    rw [okb_iff, p]
    show (-1048576 ≤ lim 1048576 x + 1048576 - 1048576 ∧ _) ∧ _
    omega
  refine ⟨z, ?_, ?_⟩
  · unfold ofx; rw [if_pos z, p]; show lim 1048576 x + 1048576 - 1048576 = _; omega
  · unfold ofy; rw [if_pos z, p]; show lim 1048576 y + 1048576 - 1048576 = _; omega
theorem index_of {n : Int} (h : ofe n = 0) : index (ofx n) (ofy n) = n := by
  obtain ⟨a, b⟩ := ofe_zero h
  have b1 := (okb_iff _ _).1 b
  have e4 : p4 22 = 17592186044416 := by decide
  unfold index ofx ofy
  rw [if_pos h, if_pos h, lim_id b1.1.1 b1.1.2, lim_id b1.2.1 b1.2.2]
  rw [show (pos 22 n).1 - 1048576 + 1048576 = (pos 22 n).1 by omega, show (pos 22 n).2 - 1048576 + 1048576 = (pos 22 n).2 by omega, idx_pos]
  exact Int.emod_eq_of_lt a.1 (by omega)
theorem index_eq {a b c d : Int} (h : (-1048576 ≤ a ∧ a ≤ 1048576) ∧ (-1048576 ≤ b ∧ b ≤ 1048576) ∧ (-1048576 ≤ c ∧ c ≤ 1048576) ∧ (-1048576 ≤ d ∧ d ≤ 1048576)) :
    (index a b == index c d) = ((a == c) && ((b == d) && true)) := by
  have e : pw 22 = 4194304 := by decide
  rw [Bool.eq_iff_iff, Bool.and_eq_true, Bool.and_eq_true, beq_iff_eq, beq_iff_eq, beq_iff_eq]
  unfold index
  rw [lim_id h.1.1 h.1.2, lim_id h.2.1.1 h.2.1.2, lim_id h.2.2.1.1 h.2.2.1.2, lim_id h.2.2.2.1 h.2.2.2.2, idx_inj (by omega) (by omega) (by omega) (by omega)]
  simp only [and_true]
  omega
theorem squares {a b c d : Int} {k : Nat} (hk : k < 9) (h : (-1048576 ≤ a ∧ a ≤ 1048576) ∧ (-1048576 ≤ b ∧ b ≤ 1048576) ∧ (-1048576 ≤ c ∧ c ≤ 1048576) ∧ (-1048576 ≤ d ∧ d ≤ 1048576)) :
    (index a b / p4 k == index c d / p4 k) = (((a + 1048576) / pw k == (c + 1048576) / pw k) && ((b + 1048576) / pw k == (d + 1048576) / pw k)) := by
  have e : pw 22 = 4194304 := by decide
  obtain ⟨m, hm⟩ : ∃ m, 22 = m + k := ⟨22 - k, by omega⟩
  have ew : pw (m + k) = 4194304 := by rw [← hm, e]
  rw [Bool.eq_iff_iff, Bool.and_eq_true, beq_iff_eq, beq_iff_eq, beq_iff_eq]
  unfold index
  rw [lim_id h.1.1 h.1.2, lim_id h.2.1.1 h.2.1.2, lim_id h.2.2.1.1 h.2.2.1.2, lim_id h.2.2.2.1 h.2.2.2.2]
  rw [hm, idx_div k m (by omega) (by omega), idx_div k m (by omega) (by omega)]
  have q : ∀ {z : Int}, (0 ≤ z ∧ z < pw (m + k)) → 0 ≤ z / pw k ∧ z / pw k < pw m := by
    intro z hz
    have := pw_pos k
    refine ⟨Int.ediv_nonneg hz.1 (by omega), Int.ediv_lt_of_lt_mul this ?_⟩
    rw [← pw_add]; exact hz.2
  rw [idx_inj (q (by omega)) (q (by omega)) (q (by omega)) (q (by omega))]
end Go.Proofs.Ytigllakcfdoagaa.Am.Sp
