import Derived.Test.YtadifmimefmcnaaNc7
import Derived.Test.YtadifmimefmcnaaSq1
set_option linter.unusedVariables false
set_option linter.unusedSimpArgs false
namespace Go.Proofs.Ytadifmimefmcnaa.Am.Sp
/-! The point that two segments have in common -/
/-- from + way * num / den -/
def alg (f w n d : Int) : Rat := ((f : Int) : Rat) + ((w * n : Int) : Rat) / ((d : Int) : Rat)
theorem alg_neg (f w n d : Int) : alg f w (0 - n) (0 - d) = alg f w n d := by
  unfold alg
  rw [Int.zero_sub, Int.zero_sub, Int.mul_neg, Rat.intCast_neg, Rat.intCast_neg]
  grind
theorem alg_split {f w n d : Int} (hd : 0 < d) : ((f + w * n / d : Int) : Rat) + ((w * n % d : Int) : Rat) / ((d : Int) : Rat) = alg f w n d := by
  unfold alg
  have h : ((d : Int) : Rat) ≠ 0 := by rw [Ne, Rat.intCast_eq_zero_iff]; omega
  have e : ((w * n : Int) : Rat) = ((w * n / d : Int) : Rat) * ((d : Int) : Rat) + ((w * n % d : Int) : Rat) := by
    rw [← Rat.intCast_mul, ← Rat.intCast_add, Int.ediv_mul_add_emod]
  rw [e, Rat.intCast_add]
  grind
theorem alg_eq {f w n d : Int} (hd : d ≠ 0) : alg f w n d * ((d : Int) : Rat) = ((f * d + w * n : Int) : Rat) := by
  unfold alg
  have h : ((d : Int) : Rat) ≠ 0 := by rw [Ne, Rat.intCast_eq_zero_iff]; omega
  rw [Rat.intCast_add, Rat.intCast_mul f d]
  grind
/-- two quotients are one number -/
theorem alg_same {f w n d g v m e : Int} (hd : d ≠ 0) (he : e ≠ 0) (h : (f * d + w * n) * e = (g * e + v * m) * d) : alg f w n d = alg g v m e := by
  have a := alg_eq (f := f) (w := w) (n := n) hd
  have b := alg_eq (f := g) (w := v) (n := m) he
  have hd' : ((d : Int) : Rat) ≠ 0 := by rw [Ne, Rat.intCast_eq_zero_iff]; omega
  have he' : ((e : Int) : Rat) ≠ 0 := by rw [Ne, Rat.intCast_eq_zero_iff]; omega
  have c : ((f * d + w * n : Int) : Rat) * ((e : Int) : Rat) = ((g * e + v * m : Int) : Rat) * ((d : Int) : Rat) := by rw [← Rat.intCast_mul, ← Rat.intCast_mul, h]
  rw [← a, ← b] at c
  grind
theorem alg_le {f w n d k : Int} (hd : 0 < d) : alg f w n d ≤ ((k : Int) : Rat) ↔ f * d + w * n ≤ k * d := by
  have a := alg_eq (f := f) (w := w) (n := n) (d := d) (by omega)
  have hd' : (0 : Rat) < ((d : Int) : Rat) := by rw [show (0 : Rat) = ((0 : Int) : Rat) by rfl, Rat.intCast_lt_intCast]; exact hd
  rw [← Rat.intCast_le_intCast, ← a, Rat.intCast_mul]
  constructor
  · intro h; exact Rat.mul_le_mul_of_nonneg_right h (Rat.le_of_lt hd')
  · intro h; exact Rat.le_of_mul_le_mul_right h hd'
theorem le_alg {f w n d k : Int} (hd : 0 < d) : ((k : Int) : Rat) ≤ alg f w n d ↔ k * d ≤ f * d + w * n := by
  have a := alg_eq (f := f) (w := w) (n := n) (d := d) (by omega)
  have hd' : (0 : Rat) < ((d : Int) : Rat) := by rw [show (0 : Rat) = ((0 : Int) : Rat) by rfl, Rat.intCast_lt_intCast]; exact hd
  rw [← Rat.intCast_le_intCast, ← a, Rat.intCast_mul]
  constructor
  · intro h; exact Rat.mul_le_mul_of_nonneg_right h (Rat.le_of_lt hd')
  · intro h; exact Rat.le_of_mul_le_mul_right h hd'
theorem alg_den (f w n d : Int) (hd : 0 < d) : ((alg f w n d).den : Int) ≤ d := by
  have e : alg f w n d = Rat.divInt (f * d + w * n) d := by
    have a := alg_eq (f := f) (w := w) (n := n) (d := d) (by omega)
    have hd' : ((d : Int) : Rat) ≠ 0 := by rw [Ne, Rat.intCast_eq_zero_iff]; omega
    rw [Rat.divInt_eq_div]
    grind
  rw [e]
  have := (bd_divInt (n := f * d + w * n) hd).2
  omega
theorem mul_den (q : Rat) : q * ((q.den : Int) : Rat) = ((q.num : Int) : Rat) := by
  have hd : ((q.den : Int) : Rat) ≠ 0 := by rw [Ne, Rat.intCast_eq_zero_iff]; have := q.den_pos; omega
  have e : ((q.num : Int) : Rat) / ((q.den : Int) : Rat) = q := by rw [← Rat.divInt_eq_div]; exact rat_self q
  conv => lhs; lhs; rw [← e]
  grind
theorem rat_le_mk {q : Rat} {k : Int} : q ≤ ((k : Int) : Rat) ↔ q.num ≤ k * q.den := by
  have e : q = Rat.divInt q.num (q.den : Int) := (rat_self q).symm
  have hd : (0 : Int) < (q.den : Int) := by have := q.den_pos; omega
  have a := mul_den q
  have hd' : (0 : Rat) < (((q.den : Int) : Int) : Rat) := by rw [show (0 : Rat) = ((0 : Int) : Rat) by rfl, Rat.intCast_lt_intCast]; exact hd
  rw [← Rat.intCast_le_intCast, ← a, Rat.intCast_mul]
  constructor
  · intro h; exact Rat.mul_le_mul_of_nonneg_right h (Rat.le_of_lt hd')
  · intro h; exact Rat.le_of_mul_le_mul_right h hd'
theorem mk_le_rat {q : Rat} {k : Int} : ((k : Int) : Rat) ≤ q ↔ k * q.den ≤ q.num := by
  have hd : (0 : Int) < (q.den : Int) := by have := q.den_pos; omega
  have a := mul_den q
  have hd' : (0 : Rat) < (((q.den : Int) : Int) : Rat) := by rw [show (0 : Rat) = ((0 : Int) : Rat) by rfl, Rat.intCast_lt_intCast]; exact hd
  rw [← Rat.intCast_le_intCast, ← a, Rat.intCast_mul]
  constructor
  · intro h; exact Rat.mul_le_mul_of_nonneg_right h (Rat.le_of_lt hd')
  · intro h; exact Rat.le_of_mul_le_mul_right h hd'
/-- a place of the plane is told by numbers of 64 bits -/
theorem place_fit {q : Rat} (h0 : ((-1048576 : Int) : Rat) ≤ q) (h1 : q ≤ ((1048576 : Int) : Rat)) (hd : (q.den : Int) ≤ 8796093022208) : fitq q = true := by
  rw [fitq_iff]
  rw [mk_le_rat] at h0
  rw [rat_le_mk] at h1
  have hp := q.den_pos
  refine ⟨?_, by omega⟩
  have hr := q.reduced
  rcases (show (q.den : Int) < 8796093022208 ∨ (q.den : Int) = 8796093022208 by omega) with k | k
  · omega
  · by_cases e : q.num.natAbs = 9223372036854775808
    · exfalso
      have e2 : q.den = 8796093022208 := by omega
      rw [e, e2] at hr
      exact absurd hr (by decide)
    · omega
end Go.Proofs.Ytadifmimefmcnaa.Am.Sp

set_option linter.unusedVariables false
set_option linter.unusedSimpArgs false
namespace Go.Proofs.Ytadifmimefmcnaa.Am.Sp
/-! Segments: more -/
theorem addb_on {l px py qx qy rx ry} (h : addb l px py qx qy rx ry = true) : onb qx qy rx ry px py = true := by
  unfold addb at h; rw [Bool.and_eq_true] at h; exact h.1
theorem addb_no {l px py qx qy rx ry} (h : addb l px py qx qy rx ry = true) : has2 l px py = false := by
  unfold addb at h; rw [Bool.and_eq_true] at h; simpa using h.2
theorem has2_mem {l : List (Int × Int)} {x y px py : Int} (hm : (x, y) ∈ l) (h : has2 l px py = false) : ((x == px) && ((y == py) && true)) = false := by
  unfold has2 at h
  rw [List.any_eq_false] at h
  have := h _ hm
  simpa using this
theorem cmp3 (ax ay bx b_y cx cy dx dy : Int) : (-1 ≤ cmp (crs ax ay bx b_y cx cy) 0 * cmp (crs ax ay bx b_y dx dy) 0 ∧ cmp (crs ax ay bx b_y cx cy) 0 * cmp (crs ax ay bx b_y dx dy) 0 ≤ 1) ∧
    (-1 ≤ cmp (crs cx cy dx dy ax ay) 0 * cmp (crs cx cy dx dy bx b_y) 0 ∧ cmp (crs cx cy dx dy ax ay) 0 * cmp (crs cx cy dx dy bx b_y) 0 ≤ 1) := by
  have a := cmp_bd (crs ax ay bx b_y cx cy) 0
  have b := cmp_bd (crs ax ay bx b_y dx dy) 0
  have c := cmp_bd (crs cx cy dx dy ax ay) 0
  have d := cmp_bd (crs cx cy dx dy bx b_y) 0
  have p := mul_bd a.1 a.2 b.1 b.2
  have q := mul_bd c.1 c.2 d.1 d.2
  omega
theorem prp_sg {ax ay bx b_y cx cy dx dy : Int} (h : prp ax ay bx b_y cx cy dx dy = true) : (crs cx cy dx dy ax ay < 0 ∧ 0 < crs cx cy dx dy bx b_y) ∨ (0 < crs cx cy dx dy ax ay ∧ crs cx cy dx dy bx b_y < 0) := by
  rw [prp_iff] at h
  have h := h.2
  generalize crs cx cy dx dy ax ay = x at *
  generalize crs cx cy dx dy bx b_y = y at *
  rcases Int.lt_trichotomy x 0 with k | k | k
  · refine .inl ⟨k, ?_⟩
    rcases Int.lt_or_le 0 y with q | q
    · exact q
    · have := Int.mul_nonneg_of_nonpos_of_nonpos (Int.le_of_lt k) q; omega
  · subst k; simp at h
  · refine .inr ⟨k, ?_⟩
    rcases Int.lt_or_le y 0 with q | q
    · exact q
    · have := Int.mul_nonneg (Int.le_of_lt k) q; omega
theorem meetN_prp {ax ay bx b_y cx cy dx dy : Int} (h : prp ax ay bx b_y cx cy dx dy = true) : meetN ax ay bx b_y cx cy dx dy = 1 := if_pos h
theorem meetN_one {ax ay bx b_y cx cy dx dy x y : Int} (h : shr ax ay bx b_y cx cy dx dy = [(x, y)]) : meetN ax ay bx b_y cx cy dx dy = 1 := by
  unfold meetN; rw [h]
  split <;> rfl
def spx (ax ay bx b_y cx cy dx dy : Int) : Int := ((shr ax ay bx b_y cx cy dx dy).headD (0, 0)).1
def spy (ax ay bx b_y cx cy dx dy : Int) : Int := ((shr ax ay bx b_y cx cy dx dy).headD (0, 0)).2
theorem one_sp {ax ay bx b_y cx cy dx dy : Int} (h0 : ¬ meetN ax ay bx b_y cx cy dx dy = 0) (h2 : ¬ meetN ax ay bx b_y cx cy dx dy = 2) (hp : prp ax ay bx b_y cx cy dx dy = false) :
    shr ax ay bx b_y cx cy dx dy = [(spx ax ay bx b_y cx cy dx dy, spy ax ay bx b_y cx cy dx dy)] := by
  unfold meetN at h0 h2
  rw [if_neg (by rw [hp]; decide)] at h0 h2
  unfold spx spy
  match e : shr ax ay bx b_y cx cy dx dy with
  | [] => rw [e] at h0; exact absurd rfl h0
  | [z] => rfl
  | _ :: _ :: r => rw [e] at h2; exfalso; apply h2; unfold mn; rw [if_neg]; simp only [List.length_cons]; omega
theorem one_mem {ax ay bx b_y cx cy dx dy x y : Int} (h : shr ax ay bx b_y cx cy dx dy = [(x, y)]) : (x, y) ∈ shr ax ay bx b_y cx cy dx dy := by rw [h]; simp
theorem one_bd {ax ay bx b_y cx cy dx dy x y : Int} (h : shr ax ay bx b_y cx cy dx dy = [(x, y)])
    (axl : -1048576 ≤ ax) (axu : ax ≤ 1048576) (ayl : -1048576 ≤ ay) (ayu : ay ≤ 1048576) (bxl : -1048576 ≤ bx) (bxu : bx ≤ 1048576) (b_yl : -1048576 ≤ b_y) (b_yu : b_y ≤ 1048576)
    (cxl : -1048576 ≤ cx) (cxu : cx ≤ 1048576) (cyl : -1048576 ≤ cy) (cyu : cy ≤ 1048576) (dxl : -1048576 ≤ dx) (dxu : dx ≤ 1048576) (dyl : -1048576 ≤ dy) (dyu : dy ≤ 1048576) :
    (-1048576 ≤ x ∧ x ≤ 1048576) ∧ (-1048576 ≤ y ∧ y ≤ 1048576) := by
  have hm := one_mem h
  rw [mem_shr] at hm
  rcases hm with ⟨e, _⟩ | ⟨e, _⟩ | ⟨e, _⟩ | ⟨e, _⟩ <;> (cases e) <;> omega
theorem along_bd {w n d : Int} (n0 : 0 ≤ n) (n1 : n ≤ d) (d0 : 0 < d) (w0 : -2097152 ≤ w) (w1 : w ≤ 2097152) : -2097152 ≤ w * n / d ∧ w * n / d ≤ 2097152 := by
  have e1 : -2097152 * d ≤ w * n := by
    have a : -2097152 * n ≤ w * n := Int.mul_le_mul_of_nonneg_right w0 n0
    omega
  have e2 : w * n ≤ 2097152 * d := by
    have a : w * n ≤ 2097152 * n := Int.mul_le_mul_of_nonneg_right w1 n0
    omega
  exact ⟨Int.le_ediv_of_mul_le d0 e1, Int.le_of_lt_add_one (Int.ediv_lt_of_lt_mul d0 (by omega))⟩
theorem ne_rat {d : Int} (h : d ≠ 0) : ((d : Int) : Rat) ≠ 0 := by rw [Ne, Rat.intCast_eq_zero_iff]; exact h
theorem part_fit {r d : Int} (h0 : 0 ≤ r) (h1 : r < d) (h2 : d ≤ 9223372036854775807) : fitq (((r : Int) : Rat) / ((d : Int) : Rat)) = true := by
  rw [← Rat.divInt_eq_div]
  exact bd_fit (bd_divInt (by omega)) (by omega) (by omega)
theorem in64_of {x : Int} (h0 : -9223372036854775808 ≤ x) (h1 : x ≤ 9223372036854775807) : in64 x = true := by unfold in64; simp; omega
/-- the point where two segments cross -/
def cpx (ax ay bx b_y cx cy dx dy : Int) : Rat := alg ax (bx - ax) (crs cx cy dx dy ax ay) (crs cx cy dx dy ax ay - crs cx cy dx dy bx b_y)
def cpy (ax ay bx b_y cx cy dx dy : Int) : Rat := alg ay (b_y - ay) (crs cx cy dx dy ax ay) (crs cx cy dx dy ax ay - crs cx cy dx dy bx b_y)
theorem between {p q n m : Int} (h : (n < 0 ∧ 0 < m) ∨ (0 < n ∧ m < 0)) {lo hi : Int} (h0 : lo ≤ p) (h1 : lo ≤ q) (h2 : p ≤ hi) (h3 : q ≤ hi) :
    ((lo : Int) : Rat) ≤ alg p (q - p) n (n - m) ∧ alg p (q - p) n (n - m) ≤ ((hi : Int) : Rat) := by
  have main : ∀ n m : Int, 0 < n → m < 0 → ((lo : Int) : Rat) ≤ alg p (q - p) n (n - m) ∧ alg p (q - p) n (n - m) ≤ ((hi : Int) : Rat) := by
    intro n m a b
    rw [le_alg (by omega), alg_le (by omega)]
    have e : p * (n - m) + (q - p) * n = p * (-m) + q * n := by grind
    rw [e]
    have a1 := Int.mul_le_mul_of_nonneg_right h0 (show 0 ≤ -m by omega)
    have a2 := Int.mul_le_mul_of_nonneg_right h1 (show 0 ≤ n by omega)
    have a3 := Int.mul_le_mul_of_nonneg_right h2 (show 0 ≤ -m by omega)
    have a4 := Int.mul_le_mul_of_nonneg_right h3 (show 0 ≤ n by omega)
    have e2 : lo * (n - m) = lo * (-m) + lo * n := by grind
    have e3 : hi * (n - m) = hi * (-m) + hi * n := by grind
    rw [e2, e3]
    omega
  rcases h with ⟨a, b⟩ | ⟨a, b⟩
  · have := main (0 - n) (0 - m) (by omega) (by omega)
    rw [show 0 - n - (0 - m) = 0 - (n - m) by omega, alg_neg] at this
    exact this
  · exact main n m a b
theorem den_le {f w n m D : Int} (h : (n < 0 ∧ 0 < m) ∨ (0 < n ∧ m < 0)) (h0 : -D ≤ n - m) (h1 : n - m ≤ D) : ((alg f w n (n - m)).den : Int) ≤ D := by
  rcases h with ⟨a, b⟩ | ⟨a, b⟩
  · have := alg_den f w (0 - n) (0 - (n - m)) (by omega)
    rw [alg_neg] at this; omega
  · have := alg_den f w n (n - m) (by omega); omega
theorem sden_bd {ax ay bx b_y cx cy dx dy : Int}
    (axl : -1048576 ≤ ax) (axu : ax ≤ 1048576) (ayl : -1048576 ≤ ay) (ayu : ay ≤ 1048576) (bxl : -1048576 ≤ bx) (bxu : bx ≤ 1048576) (b_yl : -1048576 ≤ b_y) (b_yu : b_y ≤ 1048576)
    (cxl : -1048576 ≤ cx) (cxu : cx ≤ 1048576) (cyl : -1048576 ≤ cy) (cyu : cy ≤ 1048576) (dxl : -1048576 ≤ dx) (dxu : dx ≤ 1048576) (dyl : -1048576 ≤ dy) (dyu : dy ≤ 1048576) :
    -8796093022208 ≤ crs cx cy dx dy ax ay - crs cx cy dx dy bx b_y ∧ crs cx cy dx dy ax ay - crs cx cy dx dy bx b_y ≤ 8796093022208 := by
  rw [den_cd]
  unfold den4
  have p1 := mul_bd (a := bx - ax) (b := dy - cy) (A := 2097152) (B := 2097152) (by omega) (by omega) (by omega) (by omega)
  have p2 := mul_bd (a := b_y - ay) (b := dx - cx) (A := 2097152) (B := 2097152) (by omega) (by omega) (by omega) (by omega)
  omega
theorem cp_fit {ax ay bx b_y cx cy dx dy : Int} (h : prp ax ay bx b_y cx cy dx dy = true)
    (axl : -1048576 ≤ ax) (axu : ax ≤ 1048576) (ayl : -1048576 ≤ ay) (ayu : ay ≤ 1048576) (bxl : -1048576 ≤ bx) (bxu : bx ≤ 1048576) (b_yl : -1048576 ≤ b_y) (b_yu : b_y ≤ 1048576)
    (cxl : -1048576 ≤ cx) (cxu : cx ≤ 1048576) (cyl : -1048576 ≤ cy) (cyu : cy ≤ 1048576) (dxl : -1048576 ≤ dx) (dxu : dx ≤ 1048576) (dyl : -1048576 ≤ dy) (dyu : dy ≤ 1048576) :
    fitq (cpx ax ay bx b_y cx cy dx dy) = true ∧ fitq (cpy ax ay bx b_y cx cy dx dy) = true := by
  have sg := prp_sg h
  have db := sden_bd axl axu ayl ayu bxl bxu b_yl b_yu cxl cxu cyl cyu dxl dxu dyl dyu
  have b1 := between sg axl bxl axu bxu
  have b2 := between sg ayl b_yl ayu b_yu
  exact ⟨place_fit b1.1 b1.2 (den_le sg db.1 db.2), place_fit b2.1 b2.2 (den_le sg db.1 db.2)⟩
/-! distances -/
def sqn (px py ax ay bx b_y : Int) : Int := if dot ax ay bx b_y px py ≤ 0 then dot ax ay px py px py else if dot ax ay bx b_y px py ≥ dot ax ay bx b_y bx b_y then dot bx b_y px py px py else crs ax ay bx b_y px py * crs ax ay bx b_y px py
def sqd (px py ax ay bx b_y : Int) : Int := if dot ax ay bx b_y px py ≤ 0 then 1 else if dot ax ay bx b_y px py ≥ dot ax ay bx b_y bx b_y then 1 else dot ax ay bx b_y bx b_y
theorem sq_cases (px py ax ay bx b_y : Int) :
    (dot ax ay bx b_y px py ≤ 0 → dot ax ay px py px py = sqn px py ax ay bx b_y ∧ 1 = sqd px py ax ay bx b_y) ∧
    (¬ dot ax ay bx b_y px py ≤ 0 → dot ax ay bx b_y px py ≥ dot ax ay bx b_y bx b_y → dot bx b_y px py px py = sqn px py ax ay bx b_y ∧ 1 = sqd px py ax ay bx b_y) ∧
    (¬ dot ax ay bx b_y px py ≤ 0 → ¬ dot ax ay bx b_y px py ≥ dot ax ay bx b_y bx b_y → crs ax ay bx b_y px py * crs ax ay bx b_y px py = sqn px py ax ay bx b_y ∧ dot ax ay bx b_y bx b_y = sqd px py ax ay bx b_y) := by
  unfold sqn sqd
  refine ⟨fun h => ?_, fun h k => ?_, fun h k => ?_⟩
  · rw [if_pos h, if_pos h]; exact ⟨rfl, rfl⟩
  · rw [if_neg h, if_neg h, if_pos k, if_pos k]; exact ⟨rfl, rfl⟩
  · rw [if_neg h, if_neg h, if_neg k, if_neg k]; exact ⟨rfl, rfl⟩
theorem dist_num (px py ax ay bx b_y : Int) : dot ax ay px py px py * dot ax ay bx b_y bx b_y - dot ax ay bx b_y px py * dot ax ay bx b_y px py = crs ax ay bx b_y px py * crs ax ay bx b_y px py := by
  have := lagrange ax ay bx b_y px py
  have e := Int.mul_comm (dot ax ay px py px py) (dot ax ay bx b_y bx b_y)
  omega
theorem dot_bd2 {ax ay px py : Int} (axl : -1048576 ≤ ax) (axu : ax ≤ 1048576) (ayl : -1048576 ≤ ay) (ayu : ay ≤ 1048576) (pxl : -1048576 ≤ px) (pxu : px ≤ 1048576) (pyl : -1048576 ≤ py) (pyu : py ≤ 1048576) :
    0 ≤ dot ax ay px py px py ∧ dot ax ay px py px py ≤ 8796093022208 := by
  refine ⟨dot_nonneg .., ?_⟩
  unfold dot
  have p1 := mul_bd (a := px - ax) (b := px - ax) (A := 2097152) (B := 2097152) (by omega) (by omega) (by omega) (by omega)
  have p2 := mul_bd (a := py - ay) (b := py - ay) (A := 2097152) (B := 2097152) (by omega) (by omega) (by omega) (by omega)
  omega
theorem sq_all {px py ax ay bx b_y : Int} (pxl : -1048576 ≤ px) (pxu : px ≤ 1048576) (pyl : -1048576 ≤ py) (pyu : py ≤ 1048576)
    (axl : -1048576 ≤ ax) (axu : ax ≤ 1048576) (ayl : -1048576 ≤ ay) (ayu : ay ≤ 1048576) (bxl : -1048576 ≤ bx) (bxu : bx ≤ 1048576) (b_yl : -1048576 ≤ b_y) (b_yu : b_y ≤ 1048576) :
    (0 ≤ sqn px py ax ay bx b_y ∧ sqn px py ax ay bx b_y ≤ 8796093022208 * sqd px py ax ay bx b_y) ∧ (1 ≤ sqd px py ax ay bx b_y ∧ sqd px py ax ay bx b_y ≤ 8796093022208) := by
  have d1 := dot_bd2 axl axu ayl ayu pxl pxu pyl pyu
  have d2 := dot_bd2 bxl bxu b_yl b_yu pxl pxu pyl pyu
  have d3 := dot_bd2 axl axu ayl ayu bxl bxu b_yl b_yu
  unfold sqn sqd
  split
  · omega
  · split
    · omega
    · have l := dist_num px py ax ay bx b_y
      have s1 := sqr_nonneg (crs ax ay bx b_y px py)
      have s2 := sqr_nonneg (dot ax ay bx b_y px py)
      have m := Int.mul_le_mul_of_nonneg_right d1.2 d3.1
      omega
theorem sq_bd (px py ax ay bx b_y : Int) (pxl : -1048576 ≤ px) (pxu : px ≤ 1048576) (pyl : -1048576 ≤ py) (pyu : py ≤ 1048576)
    (axl : -1048576 ≤ ax) (axu : ax ≤ 1048576) (ayl : -1048576 ≤ ay) (ayu : ay ≤ 1048576) (bxl : -1048576 ≤ bx) (bxu : bx ≤ 1048576) (b_yl : -1048576 ≤ b_y) (b_yu : b_y ≤ 1048576) :
    (0 ≤ sqn px py ax ay bx b_y ∧ sqn px py ax ay bx b_y ≤ 77371252455336267181195264) ∧ (1 ≤ sqd px py ax ay bx b_y ∧ sqd px py ax ay bx b_y ≤ 8796093022208) := by
  have h := sq_all pxl pxu pyl pyu axl axu ayl ayu bxl bxu b_yl b_yu
  omega
def wthn (px py ax ay bx b_y k : Int) : Bool := decide (0 ≤ k) && decide (sqn px py ax ay bx b_y ≤ mn k 4194304 * mn k 4194304 * sqd px py ax ay bx b_y)
theorem wthn_neg {px py ax ay bx b_y k : Int} (h : mn k 4194304 < 0) : wthn px py ax ay bx b_y k = false := by
  unfold wthn; rw [decide_eq_false (by unfold mn at h; split at h <;> omega)]; rfl
theorem wthn_pos {px py ax ay bx b_y k : Int} (h : ¬ mn k 4194304 < 0) : wthn px py ax ay bx b_y k = decide (sqn px py ax ay bx b_y ≤ mn k 4194304 * mn k 4194304 * sqd px py ax ay bx b_y) := by
  unfold wthn; rw [decide_eq_true (by unfold mn at h; split at h <;> omega)]; rfl
theorem cmp_le_dec (a b : Int) : decide (cmp a b ≤ 0) = decide (a ≤ b) := by rw [Bool.eq_iff_iff, decide_eq_true_eq, decide_eq_true_eq]; exact cmp_le a b
theorem mn_by (k : Int) : mn k 4194304 ≤ 4194304 ∧ (¬ mn k 4194304 < 0 → (0 ≤ mn k 4194304 * mn k 4194304 ∧ mn k 4194304 * mn k 4194304 ≤ 17592186044416)) := by
  have h : mn k 4194304 ≤ 4194304 := by unfold mn; split <;> omega
  refine ⟨h, fun h0 => ?_⟩
  have := mul_bd (a := mn k 4194304) (b := mn k 4194304) (A := 4194304) (B := 4194304) (by omega) (by omega) (by omega) (by omega)
  have := sqr_nonneg (mn k 4194304)
  omega
theorem mn_sq (k d : Int) (h0 : 1 ≤ d) (h1 : d ≤ 8796093022208) : ¬ mn k 4194304 < 0 → (0 ≤ mn k 4194304 * mn k 4194304 * d ∧ mn k 4194304 * mn k 4194304 * d ≤ 154742504910672534362390528) := by
  intro h
  have a := (mn_by k).2 h
  generalize mn k 4194304 * mn k 4194304 = x at *
  have b := Int.mul_nonneg a.1 (show 0 ≤ d by omega)
  have c := Int.mul_le_mul_of_nonneg_right a.2 (show 0 ≤ d by omega)
  omega
theorem near_eq (px py ax ay bx b_y k : Int) (pxl : -1048576 ≤ px) (pxu : px ≤ 1048576) (pyl : -1048576 ≤ py) (pyu : py ≤ 1048576)
    (axl : -1048576 ≤ ax) (axu : ax ≤ 1048576) (ayl : -1048576 ≤ ay) (ayu : ay ≤ 1048576) (bxl : -1048576 ≤ bx) (bxu : bx ≤ 1048576) (b_yl : -1048576 ≤ b_y) (b_yu : b_y ≤ 1048576) :
    (k ≥ 0 → decide (sgn (sqn px py ax ay bx b_y - k * k * sqd px py ax ay bx b_y) ≤ 0) = wthn px py ax ay bx b_y k) ∧ (¬ k ≥ 0 → false = wthn px py ax ay bx b_y k) := by
  have h := sq_all pxl pxu pyl pyu axl axu ayl ayu bxl bxu b_yl b_yu
  unfold wthn
  constructor
  · intro h0
    rw [decide_eq_true (show 0 ≤ k by omega), Bool.true_and, Bool.eq_iff_iff, decide_eq_true_eq, decide_eq_true_eq]
    have sg : ∀ z : Int, sgn z ≤ 0 ↔ z ≤ 0 := fun z => by unfold sgn; (repeat' split) <;> omega
    rw [sg]
    by_cases hk : k ≤ 4194304
    · rw [show mn k 4194304 = k by unfold mn; split <;> omega]; omega
    · rw [show mn k 4194304 = 4194304 by unfold mn; split <;> omega]
      have k1 : 4194304 * 4194304 ≤ k * k := Int.mul_le_mul (by omega) (by omega) (by omega) (by omega)
      have k2 := Int.mul_le_mul_of_nonneg_right k1 (show 0 ≤ sqd px py ax ay bx b_y by omega)
      constructor <;> intro _ <;> omega
  · intro h0
    rw [decide_eq_false (show ¬ 0 ≤ k by omega)]; rfl
end Go.Proofs.Ytadifmimefmcnaa.Am.Sp

set_option linter.unusedVariables false
set_option linter.unusedSimpArgs false
namespace Go.Proofs.Ytadifmimefmcnaa.Am.Sp
/-! Segments: the document's count; order does not matter -/
def ix2 : List (Int × Int) → Int → Int → Int
  | [], _, _ => -1
  | z :: r, px, py => if (px == z.1 && (py == z.2 && true)) = true then 0 else if ix2 r px py < 0 then -1 else ix2 r px py + 1
theorem ix2_hit {x y px py : Int} (r : List (Int × Int)) (h : (px == x && (py == y && true)) = true) : ix2 ((x, y) :: r) px py = 0 := by unfold ix2; rw [if_pos h]
theorem ix2_miss {x y px py : Int} (r : List (Int × Int)) (h : (px == x && (py == y && true)) = false) : ix2 ((x, y) :: r) px py = if ix2 r px py < 0 then -1 else ix2 r px py + 1 := by
  show (if (px == x && (py == y && true)) = true then 0 else if ix2 r px py < 0 then -1 else ix2 r px py + 1) = _
  rw [h]; rfl
theorem ix2_lo (l : List (Int × Int)) (px py : Int) : -1 ≤ ix2 l px py := by
  induction l with
  | nil => simp [ix2]
  | cons z r ih => unfold ix2; split; omega; split <;> omega
theorem ix2_has (l : List (Int × Int)) (px py : Int) : decide (ix2 l px py ≥ 0) = has2 l px py := by
  induction l with
  | nil => rfl
  | cons z r ih =>
    unfold ix2
    have e : has2 (z :: r) px py = ((z.1 == px && (z.2 == py && true)) || has2 r px py) := rfl
    rw [e, ← ih]
    have c : (px == z.1 && (py == z.2 && true)) = (z.1 == px && (z.2 == py && true)) := by
      rw [Bool.eq_iff_iff]; simp; constructor <;> (rintro ⟨rfl, rfl⟩; exact ⟨rfl, rfl⟩)
    rw [c]
    have lo := ix2_lo r px py
    cases (z.1 == px && (z.2 == py && true)) with
    | true => simp
    | false =>
      rw [if_neg (by decide), Bool.false_or, Bool.eq_iff_iff, decide_eq_true_eq, decide_eq_true_eq]
      split <;> omega
theorem addb_has {l px py qx qy rx ry} (h : addb l px py qx qy rx ry = false) (k : onb qx qy rx ry px py = true) : has2 l px py = true := by
  unfold addb at h; rw [k] at h; simpa using h
def crossN (ax ay bx b_y cx cy dx dy : Int) : Int := if crossing ax ay bx b_y cx cy dx dy = true then 1 else 0
theorem rsh_den {ax ay bx b_y cx cy dx dy : Int} (h : den4 ax ay bx b_y cx cy dx dy ≠ 0) : crossN ax ay bx b_y cx cy dx dy = meetN ax ay bx b_y cx cy dx dy := by
  rw [← rsh_eq]; unfold rsh; rw [if_pos h]; rfl
theorem rsh_par {ax ay bx b_y cx cy dx dy : Int} (h : den4 ax ay bx b_y cx cy dx dy = 0) {l : List (Int × Int)} (e : shr ax ay bx b_y cx cy dx dy = l) : mn 2 (l.length : Int) = meetN ax ay bx b_y cx cy dx dy := by
  rw [← rsh_eq]; unfold rsh; rw [if_neg (by simpa using h), e]
theorem last_on {ax ay bx b_y cx cy dx dy x y : Int} (h : shr ax ay bx b_y cx cy dx dy = [(x, y)]) (h1 : onb cx cy dx dy ax ay = false) (h2 : onb cx cy dx dy bx b_y = false) (h3 : onb ax ay bx b_y cx cy = false) : onb ax ay bx b_y dx dy = true := by
  have hm := one_mem h
  rw [mem_shr, h1, h2, h3] at hm
  simp at hm
  exact hm.2
theorem one_is {ax ay bx b_y cx cy dx dy x y u v : Int} (h : shr ax ay bx b_y cx cy dx dy = [(x, y)]) (h1 : onb ax ay bx b_y u v = true) (h2 : onb cx cy dx dy u v = true) (hu : (u = ax ∧ v = ay) ∨ (u = bx ∧ v = b_y) ∨ (u = cx ∧ v = cy) ∨ (u = dx ∧ v = dy)) : x = u ∧ y = v := by
  have hm : (u, v) ∈ shr ax ay bx b_y cx cy dx dy := by
    rw [mem_shr]
    rcases hu with ⟨rfl, rfl⟩ | ⟨rfl, rfl⟩ | ⟨rfl, rfl⟩ | ⟨rfl, rfl⟩
    · exact .inl ⟨rfl, h2⟩
    · exact .inr (.inl ⟨rfl, h2⟩)
    · exact .inr (.inr (.inl ⟨rfl, h1⟩))
    · exact .inr (.inr (.inr ⟨rfl, h1⟩))
  rw [h] at hm
  simp at hm
  exact ⟨hm.1.symm, hm.2.symm⟩
theorem prp_off {ax ay bx b_y cx cy dx dy : Int} (h : prp ax ay bx b_y cx cy dx dy = true) :
    onb cx cy dx dy ax ay = false ∧ onb cx cy dx dy bx b_y = false ∧ onb ax ay bx b_y cx cy = false ∧ onb ax ay bx b_y dx dy = false := by
  have e := prp_shr h
  have n : ∀ z, z ∉ shr ax ay bx b_y cx cy dx dy := fun z => by rw [e]; simp
  refine ⟨?_, ?_, ?_, ?_⟩
  · cases k : onb cx cy dx dy ax ay; rfl; exact absurd (mem_shr.2 (.inl ⟨rfl, k⟩)) (n _)
  · cases k : onb cx cy dx dy bx b_y; rfl; exact absurd (mem_shr.2 (.inr (.inl ⟨rfl, k⟩))) (n _)
  · cases k : onb ax ay bx b_y cx cy; rfl; exact absurd (mem_shr.2 (.inr (.inr (.inl ⟨rfl, k⟩)))) (n _)
  · cases k : onb ax ay bx b_y dx dy; rfl; exact absurd (mem_shr.2 (.inr (.inr (.inr ⟨rfl, k⟩)))) (n _)
theorem fn_q {q : Rat} (h : fitq q = true) : fn (qn q) (qd q) = q.num ∧ fd (qn q) (qd q) = q.den := by
  have g := gd_q h
  unfold fn fd
  rw [if_pos g, if_pos g]
  unfold qn qd
  rw [if_pos h, if_pos h]; exact ⟨rfl, rfl⟩
theorem gd_int {n : Int} (h : -9223372036854775807 ≤ n) : gd n 1 = true := by
  unfold gd
  rw [decide_eq_true (by decide), decide_eq_true (by omega), decide_eq_true (by simp)]; rfl
/-- a line through two points, told by numbers of 224 bits -/
def onl (ax ay bx b_y n d m e : Int) : Prop := (bx - ax) * (m - ay * e) * d = (b_y - ay) * (n - ax * d) * e
theorem onl_rat {ax ay bx b_y : Int} {x y : Rat} (h : (((bx - ax : Int) : Int) : Rat) * (y - ((ay : Int) : Rat)) = (((b_y - ay : Int) : Int) : Rat) * (x - ((ax : Int) : Rat))) : onl ax ay bx b_y x.num x.den y.num y.den := by
  have hx := mul_den x
  have hy := mul_den y
  unfold onl
  rw [← Rat.intCast_inj]
  rw [Rat.intCast_mul, Rat.intCast_mul, Rat.intCast_mul, Rat.intCast_mul, Rat.intCast_sub y.num, Rat.intCast_sub x.num, Rat.intCast_mul ay, Rat.intCast_mul ax, ← hx, ← hy]
  grind
theorem cp_den {ax ay bx b_y cx cy dx dy : Int} (h : prp ax ay bx b_y cx cy dx dy = true) : crs cx cy dx dy ax ay - crs cx cy dx dy bx b_y ≠ 0 := by
  rw [den_cd]; exact prp_den h
theorem cp_ab {ax ay bx b_y cx cy dx dy : Int} (h : prp ax ay bx b_y cx cy dx dy = true) :
    (((bx - ax : Int) : Int) : Rat) * (cpy ax ay bx b_y cx cy dx dy - ((ay : Int) : Rat)) = (((b_y - ay : Int) : Int) : Rat) * (cpx ax ay bx b_y cx cy dx dy - ((ax : Int) : Rat)) := by
  have z := ne_rat (cp_den h)
  unfold cpx cpy alg
  rw [Rat.intCast_mul, Rat.intCast_mul]
  grind
theorem cp_swap {ax ay bx b_y cx cy dx dy : Int} (h : prp ax ay bx b_y cx cy dx dy = true) : cpx cx cy dx dy ax ay bx b_y = cpx ax ay bx b_y cx cy dx dy ∧ cpy cx cy dx dy ax ay bx b_y = cpy ax ay bx b_y cx cy dx dy := by
  have hd := prp_den h
  have z := cp_den h
  have e1 : crs ax ay bx b_y cx cy - crs ax ay bx b_y dx dy = - den4 ax ay bx b_y cx cy dx dy := by rw [← den_ab]; omega
  unfold cpx cpy
  refine ⟨alg_same (by omega) z ?_, alg_same (by omega) z ?_⟩ <;> (rw [e1, den_cd]; unfold den4 crs; grind)
theorem cp_flip {ax ay bx b_y cx cy dx dy : Int} (h : prp ax ay bx b_y cx cy dx dy = true) : cpx bx b_y ax ay cx cy dx dy = cpx ax ay bx b_y cx cy dx dy ∧ cpy bx b_y ax ay cx cy dx dy = cpy ax ay bx b_y cx cy dx dy := by
  have z := cp_den h
  unfold cpx cpy
  refine ⟨alg_same (by omega) z ?_, alg_same (by omega) z ?_⟩ <;> grind
theorem prp_swap (ax ay bx b_y cx cy dx dy : Int) : prp cx cy dx dy ax ay bx b_y = prp ax ay bx b_y cx cy dx dy := by
  rw [Bool.eq_iff_iff, prp_iff, prp_iff]; constructor <;> rintro ⟨h1, h2⟩ <;> exact ⟨h2, h1⟩
theorem prp_flip (ax ay bx b_y cx cy dx dy : Int) : prp bx b_y ax ay cx cy dx dy = prp ax ay bx b_y cx cy dx dy := by
  rw [Bool.eq_iff_iff, prp_iff, prp_iff, crs_anti bx b_y ax ay cx cy, crs_anti bx b_y ax ay dx dy, Int.zero_sub, Int.zero_sub, Int.neg_mul_neg, Int.mul_comm (crs cx cy dx dy bx b_y)]
theorem shr_swap (ax ay bx b_y cx cy dx dy : Int) (z : Int × Int) : z ∈ shr cx cy dx dy ax ay bx b_y ↔ z ∈ shr ax ay bx b_y cx cy dx dy := by
  rw [mem_shr, mem_shr]; constructor <;> (rintro (h | h | h | h) <;> simp [h])
theorem shr_flip (ax ay bx b_y cx cy dx dy : Int) (z : Int × Int) : z ∈ shr bx b_y ax ay cx cy dx dy ↔ z ∈ shr ax ay bx b_y cx cy dx dy := by
  rw [mem_shr, mem_shr, onb_comm bx b_y ax ay cx cy, onb_comm bx b_y ax ay dx dy]; constructor <;> (rintro (h | h | h | h) <;> simp [h])
theorem len_same {l m : List (Int × Int)} (h1 : l.Nodup) (h2 : m.Nodup) (h : ∀ z, z ∈ l ↔ z ∈ m) : l.length = m.length :=
  ((List.perm_ext_iff_of_nodup h1 h2).2 h).length_eq
theorem one_same {l m : List (Int × Int)} {z : Int × Int} (h1 : l.Nodup) (h2 : m.Nodup) (h : ∀ z, z ∈ l ↔ z ∈ m) (e : m = [z]) : l = [z] := by
  have hl := len_same h1 h2 h
  rw [e] at hl
  match l, hl with
  | [y], _ =>
    have := (h y).1 (by simp)
    rw [e] at this; simp at this; rw [this]
theorem meetN_swap (ax ay bx b_y cx cy dx dy : Int) : meetN cx cy dx dy ax ay bx b_y = meetN ax ay bx b_y cx cy dx dy := by
  unfold meetN; rw [prp_swap, len_same (nodup_shr ..) (nodup_shr ..) (shr_swap ax ay bx b_y cx cy dx dy)]
theorem meetN_flip (ax ay bx b_y cx cy dx dy : Int) : meetN bx b_y ax ay cx cy dx dy = meetN ax ay bx b_y cx cy dx dy := by
  unfold meetN; rw [prp_flip, len_same (nodup_shr ..) (nodup_shr ..) (shr_flip ax ay bx b_y cx cy dx dy)]
theorem one_swap {ax ay bx b_y cx cy dx dy x y : Int} (h : shr ax ay bx b_y cx cy dx dy = [(x, y)]) : shr cx cy dx dy ax ay bx b_y = [(x, y)] := one_same (nodup_shr ..) (nodup_shr ..) (shr_swap ax ay bx b_y cx cy dx dy) h
theorem one_flip {ax ay bx b_y cx cy dx dy x y : Int} (h : shr ax ay bx b_y cx cy dx dy = [(x, y)]) : shr bx b_y ax ay cx cy dx dy = [(x, y)] := one_same (nodup_shr ..) (nodup_shr ..) (shr_flip ax ay bx b_y cx cy dx dy) h
theorem cp_cd {ax ay bx b_y cx cy dx dy : Int} (h : prp ax ay bx b_y cx cy dx dy = true) :
    (((dx - cx : Int) : Int) : Rat) * (cpy ax ay bx b_y cx cy dx dy - ((cy : Int) : Rat)) = (((dy - cy : Int) : Int) : Rat) * (cpx ax ay bx b_y cx cy dx dy - ((cx : Int) : Rat)) := by
  have k := cp_ab (by rw [prp_swap]; exact h : prp cx cy dx dy ax ay bx b_y = true)
  rw [(cp_swap h).1, (cp_swap h).2] at k; exact k
theorem onl_ab {ax ay bx b_y cx cy dx dy : Int} (h : prp ax ay bx b_y cx cy dx dy = true) (f : fitq (cpx ax ay bx b_y cx cy dx dy) = true) (g : fitq (cpy ax ay bx b_y cx cy dx dy) = true) :
    onl ax ay bx b_y (fn (qn (cpx ax ay bx b_y cx cy dx dy)) (qd (cpx ax ay bx b_y cx cy dx dy))) (fd (qn (cpx ax ay bx b_y cx cy dx dy)) (qd (cpx ax ay bx b_y cx cy dx dy))) (fn (qn (cpy ax ay bx b_y cx cy dx dy)) (qd (cpy ax ay bx b_y cx cy dx dy))) (fd (qn (cpy ax ay bx b_y cx cy dx dy)) (qd (cpy ax ay bx b_y cx cy dx dy))) := by
  rw [(fn_q f).1, (fn_q f).2, (fn_q g).1, (fn_q g).2]; exact onl_rat (cp_ab h)
theorem onl_cd {ax ay bx b_y cx cy dx dy : Int} (h : prp ax ay bx b_y cx cy dx dy = true) (f : fitq (cpx ax ay bx b_y cx cy dx dy) = true) (g : fitq (cpy ax ay bx b_y cx cy dx dy) = true) :
    onl cx cy dx dy (fn (qn (cpx ax ay bx b_y cx cy dx dy)) (qd (cpx ax ay bx b_y cx cy dx dy))) (fd (qn (cpx ax ay bx b_y cx cy dx dy)) (qd (cpx ax ay bx b_y cx cy dx dy))) (fn (qn (cpy ax ay bx b_y cx cy dx dy)) (qd (cpy ax ay bx b_y cx cy dx dy))) (fd (qn (cpy ax ay bx b_y cx cy dx dy)) (qd (cpy ax ay bx b_y cx cy dx dy))) := by
  rw [(fn_q f).1, (fn_q f).2, (fn_q g).1, (fn_q g).2]; exact onl_rat (cp_cd h)
end Go.Proofs.Ytadifmimefmcnaa.Am.Sp

set_option linter.unusedVariables false
set_option linter.unusedSimpArgs false
namespace Go.Proofs.Ytadifmimefmcnaa.Am.Sp
/-! Segments between small points -/
theorem on_box {ax ay bx b_y x y : Int} (h : onb ax ay bx b_y x y = true) : (mn ax bx ≤ x ∧ x ≤ mx ax bx) ∧ (mn ay b_y ≤ y ∧ y ≤ mx ay b_y) := by
  rw [← lies_on] at h
  simp only [Bool.and_eq_true, btw_iff] at h
  unfold mn mx
  obtain ⟨_, h1, h2⟩ := h
  refine ⟨?_, ?_⟩ <;> constructor <;> split <;> omega
theorem inS_int {l h x : Int} (h0 : l ≤ x) (h1 : x ≤ h) : inS ((l : Int) : Rat) ((h : Int) : Rat) ((x : Int) : Rat) = true := by
  unfold inS
  rw [Bool.and_eq_true, decide_eq_true_eq, decide_eq_true_eq, Rat.intCast_le_intCast, Rat.intCast_le_intCast]
  exact ⟨h0, h1⟩
theorem inS_of {l h x : Rat} (a : l ≤ x ∧ x ≤ h) : inS l h x = true := by
  unfold inS; rw [decide_eq_true a.1, decide_eq_true a.2]; rfl
theorem mn_mx (a b : Int) : (mn a b ≤ a ∧ mn a b ≤ b) ∧ (a ≤ mx a b ∧ b ≤ mx a b) := by
  unfold mn mx; refine ⟨⟨?_, ?_⟩, ?_, ?_⟩ <;> split <;> omega
theorem cp_in {ax ay bx b_y cx cy dx dy : Int} (h : prp ax ay bx b_y cx cy dx dy = true) :
    (inS ((mn ax bx : Int) : Rat) ((mx ax bx : Int) : Rat) (cpx ax ay bx b_y cx cy dx dy) = true ∧ inS ((mn ay b_y : Int) : Rat) ((mx ay b_y : Int) : Rat) (cpy ax ay bx b_y cx cy dx dy) = true) ∧
    (inS ((mn cx dx : Int) : Rat) ((mx cx dx : Int) : Rat) (cpx ax ay bx b_y cx cy dx dy) = true ∧ inS ((mn cy dy : Int) : Rat) ((mx cy dy : Int) : Rat) (cpy ax ay bx b_y cx cy dx dy) = true) := by
  have sg := prp_sg h
  have h' : prp cx cy dx dy ax ay bx b_y = true := by rw [prp_swap]; exact h
  have sg' := prp_sg h'
  have m1 := mn_mx ax bx; have m2 := mn_mx ay b_y; have m3 := mn_mx cx dx; have m4 := mn_mx cy dy
  refine ⟨⟨inS_of (between sg m1.1.1 m1.1.2 m1.2.1 m1.2.2), inS_of (between sg m2.1.1 m2.1.2 m2.2.1 m2.2.2)⟩, ?_, ?_⟩
  · rw [← (cp_swap h).1]; exact inS_of (between sg' m3.1.1 m3.1.2 m3.2.1 m3.2.2)
  · rw [← (cp_swap h).2]; exact inS_of (between sg' m4.1.1 m4.1.2 m4.2.1 m4.2.2)
theorem mn_mx_or (a b : Int) : (mn a b = a ∨ mn a b = b) ∧ (mx a b = a ∨ mx a b = b) := by unfold mn mx; constructor <;> split <;> simp
theorem rnd_int (n : Int) : rnd ((n : Int) : Rat) = n := by
  unfold rnd
  rw [Rat.num_intCast, Rat.den_intCast, if_neg (by have := Int.emod_nonneg n (b := ((1 : Nat) : Int)) (by decide); omega), Rat.floor_intCast]
theorem half_rv : rv 1 2 = 1 / 2 := by
  unfold rv
  rw [show fn 1 2 = 1 by decide, show fd 1 2 = 2 by decide, Rat.divInt_eq_div]; rfl
/-- the rounded number, times twice the denominator -/
theorem rnd_num (q : Rat) : 2 * rnd q * q.den ≤ 2 * q.num + q.den ∧ 2 * q.num - q.den ≤ 2 * rnd q * q.den := by
  have hd : (0 : Int) < (q.den : Int) := by have := q.den_pos; omega
  have ef : q.floor = q.num / q.den := Rat.floor_def q
  have em := Int.ediv_mul_add_emod q.num q.den
  have e0 := Int.emod_nonneg q.num (b := (q.den : Int)) (by omega)
  have e1 := Int.emod_lt_of_pos q.num hd
  unfold rnd
  rw [ef]
  generalize q.num / (q.den : Int) = k at *
  generalize q.num % (q.den : Int) = r at *
  generalize (q.den : Int) = d at *
  split
  · have : 2 * (k + 1) * d = 2 * (k * d) + 2 * d := by grind
    omega
  · have : 2 * k * d = 2 * (k * d) := by grind
    omega
theorem rnd_half (q : Rat) : rabs (q + (-((rnd q : Int) : Rat))) ≤ rv 1 2 := by
  rw [half_rv]
  have h := rnd_num q
  have m := mul_den q
  have hd : (0 : Rat) < (((q.den : Int) : Int) : Rat) := by rw [show (0 : Rat) = ((0 : Int) : Rat) by rfl, Rat.intCast_lt_intCast]; have := q.den_pos; omega
  have h1 := h.1
  have h2 := h.2
  rw [← Rat.intCast_le_intCast] at h1 h2
  rw [Rat.intCast_mul, Rat.intCast_mul, Rat.intCast_add, Rat.intCast_mul, ← m] at h1
  rw [Rat.intCast_mul, Rat.intCast_mul, Rat.intCast_sub, Rat.intCast_mul, ← m] at h2
  have t : (((2 : Int) : Int) : Rat) = 2 := rfl
  rw [t] at h1 h2
  generalize (((q.den : Int) : Int) : Rat) = d at *
  generalize ((rnd q : Int) : Rat) = r at *
  clear m h t
  have a1 : (2 * r - 2 * q - 1) * d ≤ 0 := by grind
  have a2 : (2 * q - 2 * r - 1) * d ≤ 0 := by grind
  have b1 : 2 * r - 2 * q - 1 ≤ 0 := by
    apply Rat.not_lt.1; intro k
    have := Rat.mul_pos k hd; grind
  have b2 : 2 * q - 2 * r - 1 ≤ 0 := by
    apply Rat.not_lt.1; intro k
    have := Rat.mul_pos k hd; grind
  unfold rabs
  grind
theorem rnd_half' (n : Int) : rabs (((n : Int) : Rat) + (-((n : Int) : Rat))) ≤ rv 1 2 := by
  have := rnd_half ((n : Int) : Rat); rw [rnd_int] at this; exact this
theorem rnd_bd {q : Rat} {M : Int} (h0 : ((-M : Int) : Rat) ≤ q) (h1 : q ≤ ((M : Int) : Rat)) : -M ≤ rnd q ∧ rnd q ≤ M := by
  rw [mk_le_rat] at h0
  rw [rat_le_mk] at h1
  have h := rnd_num q
  have hd : (0 : Int) < (q.den : Int) := by have := q.den_pos; omega
  generalize rnd q = r at *
  generalize q.num = n at *
  generalize (q.den : Int) = d at *
  have e1 : 2 * r * d = 2 * (r * d) := by grind
  constructor
  · rcases Int.lt_or_le r (-M) with k | k
    · have := Int.mul_le_mul_of_nonneg_right (show r ≤ -M - 1 by omega) (show 0 ≤ d by omega)
      have e2 : (-M - 1) * d = -M * d - d := by grind
      omega
    · exact k
  · rcases Int.lt_or_le M r with k | k
    · have := Int.mul_le_mul_of_nonneg_right (show M + 1 ≤ r by omega) (show 0 ≤ d by omega)
      have e2 : (M + 1) * d = M * d + d := by grind
      omega
    · exact k
theorem bd_of {q : Rat} {M D : Nat} (h0 : ((-(M : Int) : Int) : Rat) ≤ q) (h1 : q ≤ (((M : Int) : Int) : Rat)) (hd : (q.den : Int) ≤ D) : Bd (M * D) D q := by
  rw [mk_le_rat] at h0
  rw [rat_le_mk] at h1
  refine ⟨?_, by omega⟩
  have a : (M : Int) * (q.den : Int) ≤ (M : Int) * (D : Int) := Int.mul_le_mul_of_nonneg_left hd (by omega)
  have e : ((M * D : Nat) : Int) = (M : Int) * (D : Int) := by simp
  have e2 : -(M : Int) * (q.den : Int) = -((M : Int) * (q.den : Int)) := by grind
  omega
theorem cp40 {ax ay bx b_y cx cy dx dy : Int} (h : prp ax ay bx b_y cx cy dx dy = true)
    (axl : -40 ≤ ax) (axu : ax ≤ 40) (ayl : -40 ≤ ay) (ayu : ay ≤ 40) (bxl : -40 ≤ bx) (bxu : bx ≤ 40) (b_yl : -40 ≤ b_y) (b_yu : b_y ≤ 40)
    (cxl : -40 ≤ cx) (cxu : cx ≤ 40) (cyl : -40 ≤ cy) (cyu : cy ≤ 40) (dxl : -40 ≤ dx) (dxu : dx ≤ 40) (dyl : -40 ≤ dy) (dyu : dy ≤ 40) :
    (Bd 512000 12800 (cpx ax ay bx b_y cx cy dx dy) ∧ Bd 512000 12800 (cpy ax ay bx b_y cx cy dx dy)) ∧
    ((-40 ≤ rnd (cpx ax ay bx b_y cx cy dx dy) ∧ rnd (cpx ax ay bx b_y cx cy dx dy) ≤ 40) ∧ (-40 ≤ rnd (cpy ax ay bx b_y cx cy dx dy) ∧ rnd (cpy ax ay bx b_y cx cy dx dy) ≤ 40)) := by
  have sg := prp_sg h
  have b1 := between sg axl bxl axu bxu
  have b2 := between sg ayl b_yl ayu b_yu
  have db : -12800 ≤ crs cx cy dx dy ax ay - crs cx cy dx dy bx b_y ∧ crs cx cy dx dy ax ay - crs cx cy dx dy bx b_y ≤ 12800 := by
    rw [den_cd]
    unfold den4
    have p1 := mul_bd (a := bx - ax) (b := dy - cy) (A := 80) (B := 80) (by omega) (by omega) (by omega) (by omega)
    have p2 := mul_bd (a := b_y - ay) (b := dx - cx) (A := 80) (B := 80) (by omega) (by omega) (by omega) (by omega)
    omega
  refine ⟨⟨bd_of (M := 40) (D := 12800) b1.1 b1.2 (den_le sg db.1 db.2), bd_of (M := 40) (D := 12800) b2.1 b2.2 (den_le sg db.1 db.2)⟩, rnd_bd (M := 40) b1.1 b1.2, rnd_bd (M := 40) b2.1 b2.2⟩
theorem one40 {ax ay bx b_y cx cy dx dy x y : Int} (h : shr ax ay bx b_y cx cy dx dy = [(x, y)])
    (axl : -40 ≤ ax) (axu : ax ≤ 40) (ayl : -40 ≤ ay) (ayu : ay ≤ 40) (bxl : -40 ≤ bx) (bxu : bx ≤ 40) (b_yl : -40 ≤ b_y) (b_yu : b_y ≤ 40)
    (cxl : -40 ≤ cx) (cxu : cx ≤ 40) (cyl : -40 ≤ cy) (cyu : cy ≤ 40) (dxl : -40 ≤ dx) (dxu : dx ≤ 40) (dyl : -40 ≤ dy) (dyu : dy ≤ 40) :
    (-40 ≤ x ∧ x ≤ 40) ∧ (-40 ≤ y ∧ y ≤ 40) := by
  have hm := one_mem h
  rw [mem_shr] at hm
  rcases hm with ⟨e, _⟩ | ⟨e, _⟩ | ⟨e, _⟩ | ⟨e, _⟩ <;> (cases e) <;> omega
theorem one_in {ax ay bx b_y cx cy dx dy x y : Int} (h : shr ax ay bx b_y cx cy dx dy = [(x, y)]) :
    (inS ((mn ax bx : Int) : Rat) ((mx ax bx : Int) : Rat) ((x : Int) : Rat) = true ∧ inS ((mn ay b_y : Int) : Rat) ((mx ay b_y : Int) : Rat) ((y : Int) : Rat) = true) ∧
    (inS ((mn cx dx : Int) : Rat) ((mx cx dx : Int) : Rat) ((x : Int) : Rat) = true ∧ inS ((mn cy dy : Int) : Rat) ((mx cy dy : Int) : Rat) ((y : Int) : Rat) = true) := by
  have hm := shr_on (one_mem h)
  have a := on_box hm.1
  have b := on_box hm.2
  exact ⟨⟨inS_int a.1.1 a.1.2, inS_int a.2.1 a.2.2⟩, inS_int b.1.1 b.1.2, inS_int b.2.1 b.2.2⟩
/-! distances between small points -/
theorem sq40 {px py ax ay bx b_y : Int} (pxl : -40 ≤ px) (pxu : px ≤ 40) (pyl : -40 ≤ py) (pyu : py ≤ 40)
    (axl : -40 ≤ ax) (axu : ax ≤ 40) (ayl : -40 ≤ ay) (ayu : ay ≤ 40) (bxl : -40 ≤ bx) (bxu : bx ≤ 40) (b_yl : -40 ≤ b_y) (b_yu : b_y ≤ 40) :
    (0 ≤ sqn px py ax ay bx b_y ∧ sqn px py ax ay bx b_y ≤ 12800 * sqd px py ax ay bx b_y) ∧ (1 ≤ sqd px py ax ay bx b_y ∧ sqd px py ax ay bx b_y ≤ 12800) := by
  have db : ∀ ax ay px py : Int, -40 ≤ ax → ax ≤ 40 → -40 ≤ ay → ay ≤ 40 → -40 ≤ px → px ≤ 40 → -40 ≤ py → py ≤ 40 → 0 ≤ dot ax ay px py px py ∧ dot ax ay px py px py ≤ 12800 := by
    intro ax ay px py h1 h2 h3 h4 h5 h6 h7 h8
    refine ⟨dot_nonneg .., ?_⟩
    unfold dot
    have p1 := mul_bd (a := px - ax) (b := px - ax) (A := 80) (B := 80) (by omega) (by omega) (by omega) (by omega)
    have p2 := mul_bd (a := py - ay) (b := py - ay) (A := 80) (B := 80) (by omega) (by omega) (by omega) (by omega)
    omega
  have d1 := db ax ay px py axl axu ayl ayu pxl pxu pyl pyu
  have d2 := db bx b_y px py bxl bxu b_yl b_yu pxl pxu pyl pyu
  have d3 := db ax ay bx b_y axl axu ayl ayu bxl bxu b_yl b_yu
  unfold sqn sqd
  split
  · omega
  · split
    · omega
    · have l := dist_num px py ax ay bx b_y
      have s1 := sqr_nonneg (crs ax ay bx b_y px py)
      have s2 := sqr_nonneg (dot ax ay bx b_y px py)
      have m := Int.mul_le_mul_of_nonneg_right d1.2 d3.1
      omega
theorem dot_rev (ax ay bx b_y px py : Int) : dot bx b_y ax ay px py = dot ax ay bx b_y bx b_y - dot ax ay bx b_y px py := by unfold dot; grind
theorem dot_sq0 {ax ay bx b_y : Int} (h : dot ax ay bx b_y bx b_y = 0) : ax = bx ∧ ay = b_y := by
  unfold dot at h
  have a := sqr_nonneg (bx - ax)
  have b := sqr_nonneg (b_y - ay)
  have a' : (bx - ax) * (bx - ax) = 0 := by omega
  have b' : (b_y - ay) * (b_y - ay) = 0 := by omega
  rcases Int.mul_eq_zero.1 a' with x | x <;> rcases Int.mul_eq_zero.1 b' with y | y <;> omega
theorem sq_rev (px py ax ay bx b_y : Int) : sqn px py ax ay bx b_y * sqd px py bx b_y ax ay = sqn px py bx b_y ax ay * sqd px py ax ay bx b_y := by
  have r1 := dot_rev ax ay bx b_y px py
  have r2 := sq_comm ax ay bx b_y
  have n := dot_nonneg ax ay bx b_y
  have c := crs_anti ax ay bx b_y px py
  unfold sqn sqd
  by_cases h1 : dot ax ay bx b_y px py ≤ 0
  · rw [if_pos h1, if_pos h1]
    by_cases h2 : dot bx b_y ax ay px py ≤ 0
    · rw [if_pos h2, if_pos h2]
      have e := dot_sq0 (show dot ax ay bx b_y bx b_y = 0 by omega)
      rw [e.1, e.2]
    · rw [if_neg h2, if_neg h2, if_pos (by omega), if_pos (by omega)]
  · rw [if_neg h1, if_neg h1]
    by_cases h3 : dot ax ay bx b_y px py ≥ dot ax ay bx b_y bx b_y
    · rw [if_pos h3, if_pos h3, if_pos (by omega), if_pos (by omega)]
    · rw [if_neg h3, if_neg h3, if_neg (by omega), if_neg (by omega), if_neg (by omega), if_neg (by omega), c, ← r2]
      grind
theorem sq_zero (px py ax ay bx b_y : Int) : (cmp (sqn px py ax ay bx b_y) 0 == 0) = onb ax ay bx b_y px py := by
  rw [Bool.eq_iff_iff, beq_iff_eq, cmp_zero, onb_iff]
  have e : dot px py ax ay bx b_y = dot ax ay px py px py - dot ax ay bx b_y px py := by unfold dot; grind
  have l := dist_num px py ax ay bx b_y
  have n1 := dot_nonneg ax ay px py
  have n2 := dot_nonneg bx b_y px py
  have n3 := dot_nonneg ax ay bx b_y
  unfold sqn
  by_cases h1 : dot ax ay bx b_y px py ≤ 0
  · rw [if_pos h1]
    constructor
    · intro h
      have q := dot_sq0 h
      rw [← q.1, ← q.2]
      refine ⟨by unfold crs; grind, by unfold dot; grind⟩
    · rintro ⟨h, k⟩; omega
  · rw [if_neg h1]
    by_cases h3 : dot ax ay bx b_y px py ≥ dot ax ay bx b_y bx b_y
    · rw [if_pos h3]
      constructor
      · intro h
        have q := dot_sq0 h
        rw [← q.1, ← q.2]
        refine ⟨by unfold crs; grind, by unfold dot; grind⟩
      · rintro ⟨h, k⟩
        have e2 : dot bx b_y px py px py = dot ax ay bx b_y bx b_y - 2 * dot ax ay bx b_y px py + dot ax ay px py px py := by unfold dot; grind
        rw [h] at l
        simp only [Int.mul_zero] at l
        have t : dot ax ay bx b_y px py = dot ax ay bx b_y bx b_y ∧ dot ax ay px py px py = dot ax ay bx b_y px py := by
          generalize dot ax ay bx b_y px py = t at *
          generalize dot ax ay bx b_y bx b_y = s at *
          generalize dot ax ay px py px py = p at *
          have l2 : p * s = t * t := by omega
          have k2 : p ≤ t := by omega
          rcases Int.lt_or_le s t with q | q
          · exfalso
            have : p * s ≤ t * s := Int.mul_le_mul_of_nonneg_right k2 n3
            have : t * s < t * t := Int.mul_lt_mul_of_pos_left q (by omega)
            omega
          · have e3 : s = t := by omega
            subst e3
            refine ⟨rfl, ?_⟩
            have : (p - s) * s = 0 := by grind
            rcases Int.mul_eq_zero.1 this with z | z <;> omega
        omega
    · rw [if_neg h3]
      constructor
      · intro h
        have hc : crs ax ay bx b_y px py = 0 := by rcases Int.mul_eq_zero.1 h with z | z <;> exact z
        refine ⟨hc, ?_⟩
        rw [hc] at l
        simp only [Int.mul_zero] at l
        rw [e]
        generalize dot ax ay bx b_y px py = t at *
        generalize dot ax ay bx b_y bx b_y = s at *
        generalize dot ax ay px py px py = p at *
        rcases Int.lt_or_le t p with q | q
        · exfalso
          have : t * s < p * s := Int.mul_lt_mul_of_pos_right q (by omega)
          have : t * t ≤ t * s := Int.mul_le_mul_of_nonneg_left (by omega) (by omega)
          omega
        · omega
      · rintro ⟨h, _⟩; rw [h]; rfl
theorem sq_end {px py ax ay bx b_y : Int} : sqn px py ax ay bx b_y ≤ dot px py ax ay ax ay * sqd px py ax ay bx b_y ∧ sqn px py ax ay bx b_y ≤ dot px py bx b_y bx b_y * sqd px py ax ay bx b_y := by
  rw [sq_comm px py ax ay, sq_comm px py bx b_y]
  have l := dist_num px py ax ay bx b_y
  have n1 := dot_nonneg ax ay px py
  have n2 := dot_nonneg bx b_y px py
  have n3 := dot_nonneg ax ay bx b_y
  have e2 : dot bx b_y px py px py = dot ax ay bx b_y bx b_y - 2 * dot ax ay bx b_y px py + dot ax ay px py px py := by unfold dot; grind
  have s2 := sqr_nonneg (dot ax ay bx b_y px py)
  unfold sqn sqd
  by_cases h1 : dot ax ay bx b_y px py ≤ 0
  · rw [if_pos h1, if_pos h1]; omega
  · rw [if_neg h1, if_neg h1]
    by_cases h3 : dot ax ay bx b_y px py ≥ dot ax ay bx b_y bx b_y
    · rw [if_pos h3, if_pos h3]; omega
    · rw [if_neg h3, if_neg h3]
      refine ⟨by omega, ?_⟩
      rw [← l, e2]
      have s3 := sqr_nonneg (dot ax ay bx b_y bx b_y - dot ax ay bx b_y px py)
      generalize dot ax ay bx b_y px py = t at *
      generalize dot ax ay bx b_y bx b_y = s at *
      generalize dot ax ay px py px py = p at *
      have : (s - 2 * t + p) * s = p * s - t * t + (s - t) * (s - t) := by grind
      omega
theorem wthn_mono {px py ax ay bx b_y k : Int} (hd : 1 ≤ sqd px py ax ay bx b_y) (h0 : k ≤ 1000) (h : wthn px py ax ay bx b_y k = true) : wthn px py ax ay bx b_y (k + 1) = true := by
  unfold wthn at *
  rw [Bool.and_eq_true, decide_eq_true_eq, decide_eq_true_eq] at *
  obtain ⟨h1, h2⟩ := h
  rw [show mn k 4194304 = k by unfold mn; split <;> omega] at h2
  rw [show mn (k + 1) 4194304 = k + 1 by unfold mn; split <;> omega]
  refine ⟨by omega, Int.le_trans h2 (Int.mul_le_mul_of_nonneg_right ?_ (by omega))⟩
  have : (k + 1) * (k + 1) = k * k + 2 * k + 1 := by grind
  omega
theorem wthn_m1 (px py ax ay bx b_y : Int) : wthn px py ax ay bx b_y (-1) = false := rfl
theorem wthn_300 {px py ax ay bx b_y : Int} (h : sqn px py ax ay bx b_y ≤ 12800 * sqd px py ax ay bx b_y) (hd : 1 ≤ sqd px py ax ay bx b_y) : wthn px py ax ay bx b_y 300 = true := by
  unfold wthn
  rw [Bool.and_eq_true, decide_eq_true_eq, decide_eq_true_eq, show mn 300 4194304 = 300 by decide]
  omega
end Go.Proofs.Ytadifmimefmcnaa.Am.Sp

set_option linter.unusedVariables false
set_option linter.unusedSimpArgs false
namespace Go.Proofs.Ytadifmimefmcnaa.Am.Sp
/-! A box and a segment -/
def posS (ax ay bx b_y cx cy dx dy : Int) : Prop :=
  (den4 ax ay bx b_y cx cy dx dy ≠ 0 ∧ crs ax ay bx b_y cx cy * crs ax ay bx b_y dx dy ≤ 0 ∧ crs cx cy dx dy ax ay * crs cx cy dx dy bx b_y ≤ 0) ∨
  onb cx cy dx dy ax ay = true ∨ onb cx cy dx dy bx b_y = true ∨ onb ax ay bx b_y cx cy = true ∨ onb ax ay bx b_y dx dy = true
theorem posS_iff (ax ay bx b_y cx cy dx dy : Int) : posS ax ay bx b_y cx cy dx dy ↔ meetN ax ay bx b_y cx cy dx dy > 0 := by
  have shn : (∃ z, z ∈ shr ax ay bx b_y cx cy dx dy) ↔ (onb cx cy dx dy ax ay = true ∨ onb cx cy dx dy bx b_y = true ∨ onb ax ay bx b_y cx cy = true ∨ onb ax ay bx b_y dx dy = true) := by
    constructor
    · rintro ⟨z, h⟩; rw [mem_shr] at h
      rcases h with ⟨_, h⟩ | ⟨_, h⟩ | ⟨_, h⟩ | ⟨_, h⟩ <;> simp [h]
    · rintro (h | h | h | h)
      · exact ⟨(ax, ay), mem_shr.2 (.inl ⟨rfl, h⟩)⟩
      · exact ⟨(bx, b_y), mem_shr.2 (.inr (.inl ⟨rfl, h⟩))⟩
      · exact ⟨(cx, cy), mem_shr.2 (.inr (.inr (.inl ⟨rfl, h⟩)))⟩
      · exact ⟨(dx, dy), mem_shr.2 (.inr (.inr (.inr ⟨rfl, h⟩)))⟩
  have len : (∃ z, z ∈ shr ax ay bx b_y cx cy dx dy) → mn 2 ((shr ax ay bx b_y cx cy dx dy).length : Int) > 0 := by
    rintro ⟨z, h⟩; have := List.length_pos_of_mem h; unfold mn; split <;> omega
  have len' : mn 2 ((shr ax ay bx b_y cx cy dx dy).length : Int) > 0 → ∃ z, z ∈ shr ax ay bx b_y cx cy dx dy := by
    intro h
    match e : shr ax ay bx b_y cx cy dx dy with
    | [] => rw [e] at h; exact absurd h (by decide)
    | z :: r => exact ⟨z, by simp⟩
  unfold posS
  rw [← shn, ← rsh_eq]
  unfold rsh
  rw [← crossing_iff]
  by_cases hd : den4 ax ay bx b_y cx cy dx dy = 0
  · rw [if_neg (by simpa using hd)]
    exact ⟨fun h => h.elim (fun k => absurd hd k.1) len, fun h => .inr (len' h)⟩
  · rw [if_pos hd]
    constructor
    · rintro (h | ⟨z, h⟩)
      · rw [if_pos h.2]; decide
      · rw [if_pos (shr_cross h)]; decide
    · intro h
      split at h
      · next k => exact .inl ⟨hd, k⟩
      · exact absurd h (by decide)
theorem pos_flip {ax ay bx b_y cx cy dx dy : Int} (h : posS ax ay bx b_y cx cy dx dy) : posS ax ay bx b_y dx dy cx cy := by
  rw [posS_iff] at *
  rw [← meetN_swap, meetN_flip, meetN_swap]; exact h
theorem onb_neg (ax ay bx b_y px py : Int) : onb (-ax) ay (-bx) b_y (-px) py = onb ax ay bx b_y px py := by
  rw [Bool.eq_iff_iff, onb_iff, onb_iff]
  have e1 : crs (-ax) ay (-bx) b_y (-px) py = - crs ax ay bx b_y px py := by unfold crs; grind
  have e2 : dot (-px) py (-ax) ay (-bx) b_y = dot px py ax ay bx b_y := by unfold dot; grind
  rw [e1, e2]; constructor <;> (rintro ⟨h, k⟩; exact ⟨by omega, k⟩)
theorem onb_xy (ax ay bx b_y px py : Int) : onb ay ax b_y bx py px = onb ax ay bx b_y px py := by
  rw [Bool.eq_iff_iff, onb_iff, onb_iff]
  have e1 : crs ay ax b_y bx py px = - crs ax ay bx b_y px py := by unfold crs; grind
  have e2 : dot py px ay ax b_y bx = dot px py ax ay bx b_y := by unfold dot; grind
  rw [e1, e2]; constructor <;> (rintro ⟨h, k⟩; exact ⟨by omega, k⟩)
theorem pos_neg {ax ay bx b_y cx cy dx dy : Int} (h : posS (-ax) ay (-bx) b_y (-cx) cy (-dx) dy) : posS ax ay bx b_y cx cy dx dy := by
  unfold posS at *
  rw [onb_neg, onb_neg, onb_neg, onb_neg] at h
  have c : ∀ ax ay bx b_y px py, crs (-ax) ay (-bx) b_y (-px) py = - crs ax ay bx b_y px py := fun ax ay bx b_y px py => by unfold crs; grind
  have d : den4 (-ax) ay (-bx) b_y (-cx) cy (-dx) dy = - den4 ax ay bx b_y cx cy dx dy := by unfold den4; grind
  rw [c, c, c, c, d, Int.neg_mul_neg, Int.neg_mul_neg] at h
  rcases h with ⟨h1, h2, h3⟩ | h
  · exact .inl ⟨by omega, h2, h3⟩
  · exact .inr h
theorem pos_xy {ax ay bx b_y cx cy dx dy : Int} (h : posS ay ax b_y bx cy cx dy dx) : posS ax ay bx b_y cx cy dx dy := by
  unfold posS at *
  rw [onb_xy cx cy dx dy ax ay, onb_xy cx cy dx dy bx b_y, onb_xy ax ay bx b_y cx cy, onb_xy ax ay bx b_y dx dy] at h
  have c : ∀ ax ay bx b_y px py, crs ay ax b_y bx py px = - crs ax ay bx b_y px py := fun ax ay bx b_y px py => by unfold crs; grind
  have d : den4 ay ax b_y bx cy cx dy dx = - den4 ax ay bx b_y cx cy dx dy := by unfold den4; grind
  rw [c ax ay bx b_y cx cy, c ax ay bx b_y dx dy, c cx cy dx dy ax ay, c cx cy dx dy bx b_y, d, Int.neg_mul_neg, Int.neg_mul_neg] at h
  rcases h with ⟨h1, h2, h3⟩ | h
  · exact .inl ⟨by omega, h2, h3⟩
  · exact .inr h
/-- one of the four edges has a point in common with a segment -/
def edge4 (lx ly hx hy wx wy zx zy : Int) : Prop :=
  posS wx wy zx zy lx ly hx ly ∨ posS wx wy zx zy hx ly hx hy ∨ posS wx wy zx zy hx hy lx hy ∨ posS wx wy zx zy lx hy lx ly
/-- the line through a segment touches the box -/
def both4 (lx ly hx hy wx wy zx zy : Int) : Prop :=
  (crs wx wy zx zy lx ly ≥ 0 ∨ crs wx wy zx zy hx ly ≥ 0 ∨ crs wx wy zx zy hx hy ≥ 0 ∨ crs wx wy zx zy lx hy ≥ 0) ∧
  (crs wx wy zx zy lx ly ≤ 0 ∨ crs wx wy zx zy hx ly ≤ 0 ∨ crs wx wy zx zy hx hy ≤ 0 ∨ crs wx wy zx zy lx hy ≤ 0)
theorem mulneg {a b : Int} (h : (a ≤ 0 ∧ 0 ≤ b) ∨ (0 ≤ a ∧ b ≤ 0)) : a * b ≤ 0 := by
  rcases h with ⟨h, k⟩ | ⟨h, k⟩
  · exact Int.mul_nonpos_of_nonpos_of_nonneg h k
  · exact Int.mul_nonpos_of_nonneg_of_nonpos h k
/-- in from the left -/
theorem from_left {lx ly hx hy wx wy zx zy : Int} (hX : lx ≤ hx) (hY : ly ≤ hy) (hw : wx < lx) (hz : lx ≤ zx) (m1 : ly ≤ wy ∨ ly ≤ zy) (m2 : wy ≤ hy ∨ zy ≤ hy) (hb : both4 lx ly hx hy wx wy zx zy) : edge4 lx ly hx hy wx wy zx zy := by
  have e1 : crs wx wy zx zy hx ly = crs wx wy zx zy lx ly - (zy - wy) * (hx - lx) := by unfold crs; grind
  have e2 : crs wx wy zx zy hx hy = crs wx wy zx zy lx hy - (zy - wy) * (hx - lx) := by unfold crs; grind
  have e3 : crs wx wy zx zy lx hy = crs wx wy zx zy lx ly + (zx - wx) * (hy - ly) := by unfold crs; grind
  have p3 : 0 ≤ (zx - wx) * (hy - ly) := Int.mul_nonneg (by omega) (by omega)
  obtain ⟨b1, b2⟩ := hb
  rcases Int.lt_or_le 0 (crs wx wy zx zy lx ly) with h0 | h0
  · -- below the box at its left edge
    have f1 : crs wx wy zx zy hx ly ≤ 0 := by omega
    have pb : 0 < (zy - wy) * (hx - lx) := by omega
    have hB : 0 < zy - wy := by
      rcases Int.lt_or_le 0 (zy - wy) with k | k
      · exact k
      · have := Int.mul_nonpos_of_nonpos_of_nonneg k (show 0 ≤ hx - lx by omega); omega
    have hwy : wy < ly := by
      rcases Int.lt_or_le wy ly with k | k
      · exact k
      · exfalso
        have q1 : (zx - wx) * (ly - wy) ≤ 0 := Int.mul_nonpos_of_nonneg_of_nonpos (by omega) (by omega)
        have q2 : 0 < (zy - wy) * (lx - wx) := Int.mul_pos hB (by omega)
        unfold crs at h0; omega
    refine .inl (.inl ⟨?_, mulneg (.inr ⟨by omega, f1⟩), ?_⟩)
    · have : den4 wx wy zx zy lx ly hx ly = -((zy - wy) * (hx - lx)) := by unfold den4; grind
      omega
    · have g1 : crs lx ly hx ly wx wy = (hx - lx) * (wy - ly) := by unfold crs; grind
      have g2 : crs lx ly hx ly zx zy = (hx - lx) * (zy - ly) := by unfold crs; grind
      rw [g1, g2]
      exact mulneg (.inl ⟨Int.mul_nonpos_of_nonneg_of_nonpos (by omega) (by omega), Int.mul_nonneg (by omega) (by omega)⟩)
  · rcases Int.lt_or_le (crs wx wy zx zy lx hy) 0 with h1 | h1
    · -- above the box at its left edge
      have f2 : crs wx wy zx zy hx hy ≥ 0 := by omega
      have pb : (zy - wy) * (hx - lx) < 0 := by omega
      have hB : zy - wy < 0 := by
        rcases Int.lt_or_le (zy - wy) 0 with k | k
        · exact k
        · have := Int.mul_nonneg k (show 0 ≤ hx - lx by omega); omega
      have hwy : hy < wy := by
        rcases Int.lt_or_le hy wy with k | k
        · exact k
        · exfalso
          have q1 : 0 ≤ (zx - wx) * (hy - wy) := Int.mul_nonneg (by omega) (by omega)
          have q2 : (zy - wy) * (lx - wx) < 0 := Int.mul_neg_of_neg_of_pos hB (by omega)
          unfold crs at h1; omega
      refine .inr (.inr (.inl (.inl ⟨?_, mulneg (.inr ⟨f2, by omega⟩), ?_⟩)))
      · have : den4 wx wy zx zy hx hy lx hy = (zy - wy) * (hx - lx) := by unfold den4; grind
        omega
      · have g1 : crs hx hy lx hy wx wy = -((hx - lx) * (wy - hy)) := by unfold crs; grind
        have g2 : crs hx hy lx hy zx zy = -((hx - lx) * (zy - hy)) := by unfold crs; grind
        rw [g1, g2, Int.neg_mul_neg]
        exact mulneg (.inr ⟨Int.mul_nonneg (by omega) (by omega), Int.mul_nonpos_of_nonneg_of_nonpos (by omega) (by omega)⟩)
    · -- through its left edge
      have g1 : crs lx hy lx ly wx wy = (hy - ly) * (wx - lx) := by unfold crs; grind
      have g2 : crs lx hy lx ly zx zy = (hy - ly) * (zx - lx) := by unfold crs; grind
      have hg : crs lx hy lx ly wx wy * crs lx hy lx ly zx zy ≤ 0 := by
        rw [g1, g2]; exact mulneg (.inl ⟨Int.mul_nonpos_of_nonneg_of_nonpos (by omega) (by omega), Int.mul_nonneg (by omega) (by omega)⟩)
      refine .inr (.inr (.inr ?_))
      by_cases hd : ly = hy
      · subst hd
        have z0 : crs wx wy zx zy lx ly = 0 := by omega
        refine .inr (.inr (.inr (.inl ?_)))
        rw [← lies_on, Bool.and_eq_true, Bool.and_eq_true, beq_iff_eq, btw_iff, btw_iff]
        refine ⟨z0, .inl ⟨by omega, hz⟩, ?_⟩
        unfold crs at z0
        -- the line passes through the point; its height is between those of the ends
        rcases Int.lt_or_le wy ly with k | k
        · refine .inl ⟨by omega, ?_⟩
          rcases m1 with q | q
          · omega
          · exact q
        · rcases Int.lt_or_le ly wy with k2 | k2
          · rcases m2 with q | q
            · omega
            · exact .inr ⟨q, by omega⟩
          · rcases Int.lt_or_le zy ly with k3 | k3
            · exact .inr ⟨by omega, by omega⟩
            · exact .inl ⟨by omega, k3⟩
      · refine .inl ⟨?_, mulneg (.inr ⟨h1, h0⟩), hg⟩
        have : den4 wx wy zx zy lx hy lx ly = -((zx - wx) * (hy - ly)) := by unfold den4; grind
        have := Int.mul_pos (show 0 < zx - wx by omega) (show 0 < hy - ly by omega)
        omega
theorem crs_neg (ax ay bx b_y px py : Int) : crs (-ax) ay (-bx) b_y (-px) py = - crs ax ay bx b_y px py := by unfold crs; grind
theorem crs_xy (ax ay bx b_y px py : Int) : crs ay ax b_y bx py px = - crs ax ay bx b_y px py := by unfold crs; grind
theorem from_right {lx ly hx hy wx wy zx zy : Int} (hX : lx ≤ hx) (hY : ly ≤ hy) (hw : hx < wx) (hz : zx ≤ hx) (m1 : ly ≤ wy ∨ ly ≤ zy) (m2 : wy ≤ hy ∨ zy ≤ hy) (hb : both4 lx ly hx hy wx wy zx zy) : edge4 lx ly hx hy wx wy zx zy := by
  have h := from_left (lx := -hx) (ly := ly) (hx := -lx) (hy := hy) (wx := -wx) (wy := wy) (zx := -zx) (zy := zy) (by omega) hY (by omega) (by omega) m1 m2 (by
    unfold both4 at *; rw [crs_neg, crs_neg, crs_neg, crs_neg]; omega)
  rcases h with h | h | h | h
  · exact .inl (pos_flip (pos_neg h))
  · exact .inr (.inr (.inr (pos_flip (pos_neg h))))
  · exact .inr (.inr (.inl (pos_flip (pos_neg h))))
  · exact .inr (.inl (pos_flip (pos_neg h)))
theorem from_below {lx ly hx hy wx wy zx zy : Int} (hX : lx ≤ hx) (hY : ly ≤ hy) (hw : wy < ly) (hz : ly ≤ zy) (m1 : lx ≤ wx ∨ lx ≤ zx) (m2 : wx ≤ hx ∨ zx ≤ hx) (hb : both4 lx ly hx hy wx wy zx zy) : edge4 lx ly hx hy wx wy zx zy := by
  have h := from_left (lx := ly) (ly := lx) (hx := hy) (hy := hx) (wx := wy) (wy := wx) (zx := zy) (zy := zx) hY hX hw hz m1 m2 (by
    unfold both4 at *; rw [crs_xy wx wy zx zy lx ly, crs_xy wx wy zx zy lx hy, crs_xy wx wy zx zy hx hy, crs_xy wx wy zx zy hx ly]; omega)
  rcases h with h | h | h | h
  · exact .inr (.inr (.inr (pos_flip (pos_xy h))))
  · exact .inr (.inr (.inl (pos_flip (pos_xy h))))
  · exact .inr (.inl (pos_flip (pos_xy h)))
  · exact .inl (pos_flip (pos_xy h))
theorem from_above {lx ly hx hy wx wy zx zy : Int} (hX : lx ≤ hx) (hY : ly ≤ hy) (hw : hy < wy) (hz : zy ≤ hy) (m1 : lx ≤ wx ∨ lx ≤ zx) (m2 : wx ≤ hx ∨ zx ≤ hx) (hb : both4 lx ly hx hy wx wy zx zy) : edge4 lx ly hx hy wx wy zx zy := by
  have h := from_right (lx := ly) (ly := lx) (hx := hy) (hy := hx) (wx := wy) (wy := wx) (zx := zy) (zy := zx) hY hX hw hz m1 m2 (by
    unfold both4 at *; rw [crs_xy wx wy zx zy lx ly, crs_xy wx wy zx zy lx hy, crs_xy wx wy zx zy hx hy, crs_xy wx wy zx zy hx ly]; omega)
  rcases h with h | h | h | h
  · exact .inr (.inr (.inr (pos_flip (pos_xy h))))
  · exact .inr (.inr (.inl (pos_flip (pos_xy h))))
  · exact .inr (.inl (pos_flip (pos_xy h)))
  · exact .inl (pos_flip (pos_xy h))
theorem inbox_iff (lx ly hx hy px py : Int) : inbox lx ly hx hy px py = true ↔ (lx ≤ px ∧ px ≤ hx) ∧ (ly ≤ py ∧ py ≤ hy) := by
  unfold inbox; simp [and_assoc]
/-- the boxes of a segment and of a box have a point in common -/
def meets (lx ly hx hy wx wy zx zy : Int) : Prop := ((lx ≤ wx ∨ lx ≤ zx) ∧ (wx ≤ hx ∨ zx ≤ hx)) ∧ ((ly ≤ wy ∨ ly ≤ zy) ∧ (wy ≤ hy ∨ zy ≤ hy))
theorem hit_in {lx ly hx hy wx wy zx zy : Int} (hX : lx ≤ hx) (hY : ly ≤ hy) (hm : meets lx ly hx hy wx wy zx zy) (hb : both4 lx ly hx hy wx wy zx zy) :
    inbox lx ly hx hy wx wy = true ∨ inbox lx ly hx hy zx zy = true ∨ edge4 lx ly hx hy wx wy zx zy := by
  obtain ⟨⟨a1, a2⟩, b1, b2⟩ := hm
  rcases (show wx < lx ∨ hx < wx ∨ wy < ly ∨ hy < wy ∨ ((lx ≤ wx ∧ wx ≤ hx) ∧ (ly ≤ wy ∧ wy ≤ hy)) by omega) with h | h | h | h | h
  · exact .inr (.inr (from_left hX hY h (by omega) b1 b2 hb))
  · exact .inr (.inr (from_right hX hY h (by omega) b1 b2 hb))
  · exact .inr (.inr (from_below hX hY h (by omega) a1 a2 hb))
  · exact .inr (.inr (from_above hX hY h (by omega) a1 a2 hb))
  · exact .inl ((inbox_iff ..).2 h)
/-- where the line has a point in a box -/
theorem zero_both {lx ly hx hy wx wy zx zy px py : Int} (h : (lx ≤ px ∧ px ≤ hx) ∧ (ly ≤ py ∧ py ≤ hy)) (h0 : crs wx wy zx zy px py = 0) : both4 lx ly hx hy wx wy zx zy := by
  have e : ∀ qx qy, crs wx wy zx zy qx qy = (zx - wx) * (qy - py) - (zy - wy) * (qx - px) := fun qx qy => by unfold crs at *; grind
  unfold both4
  rw [e, e, e, e]
  have up : ∀ {a x y : Int}, 0 ≤ a → x ≤ 0 → 0 ≤ y → a * x ≤ 0 ∧ 0 ≤ a * y := fun ha hx hy => ⟨Int.mul_nonpos_of_nonneg_of_nonpos ha hx, Int.mul_nonneg ha hy⟩
  have dn : ∀ {a x y : Int}, a ≤ 0 → x ≤ 0 → 0 ≤ y → 0 ≤ a * x ∧ a * y ≤ 0 := fun ha hx hy => ⟨Int.mul_nonneg_of_nonpos_of_nonpos ha hx, Int.mul_nonpos_of_nonpos_of_nonneg ha hy⟩
  rcases Int.le_total 0 (zx - wx) with k | k <;> rcases Int.le_total 0 (zy - wy) with q | q
  · have a := up k (show ly - py ≤ 0 by omega) (show 0 ≤ hy - py by omega); have b := up q (show lx - px ≤ 0 by omega) (show 0 ≤ hx - px by omega); omega
  · have a := up k (show ly - py ≤ 0 by omega) (show 0 ≤ hy - py by omega); have b := dn q (show lx - px ≤ 0 by omega) (show 0 ≤ hx - px by omega); omega
  · have a := dn k (show ly - py ≤ 0 by omega) (show 0 ≤ hy - py by omega); have b := up q (show lx - px ≤ 0 by omega) (show 0 ≤ hx - px by omega); omega
  · have a := dn k (show ly - py ≤ 0 by omega) (show 0 ≤ hy - py by omega); have b := dn q (show lx - px ≤ 0 by omega) (show 0 ≤ hx - px by omega); omega
/-- what two segments share: their boxes meet, and the line of the first one touches the second one -/
theorem pos_meets {ax ay bx b_y cx cy dx dy : Int} (h : posS ax ay bx b_y cx cy dx dy) :
    crs ax ay bx b_y cx cy * crs ax ay bx b_y dx dy ≤ 0 ∧ ((mn ax bx ≤ mx cx dx ∧ mn cx dx ≤ mx ax bx) ∧ (mn ay b_y ≤ mx cy dy ∧ mn cy dy ≤ mx ay b_y)) := by
  rw [posS_iff] at h
  unfold meetN at h
  by_cases hp : prp ax ay bx b_y cx cy dx dy = true
  · have q := cp_in hp
    have r := (prp_iff ..).1 hp
    refine ⟨Int.le_of_lt r.1, ?_⟩
    unfold inS at q
    simp only [Bool.and_eq_true, decide_eq_true_eq] at q
    obtain ⟨⟨⟨x1, x2⟩, y1, y2⟩, ⟨x3, x4⟩, y3, y4⟩ := q
    refine ⟨⟨?_, ?_⟩, ?_, ?_⟩
    · exact Rat.intCast_le_intCast.1 (Rat.le_trans x1 x4)
    · exact Rat.intCast_le_intCast.1 (Rat.le_trans x3 x2)
    · exact Rat.intCast_le_intCast.1 (Rat.le_trans y1 y4)
    · exact Rat.intCast_le_intCast.1 (Rat.le_trans y3 y2)
  · rw [if_neg hp] at h
    match e : shr ax ay bx b_y cx cy dx dy with
    | [] => rw [e] at h; exact absurd h (by decide)
    | (x, y) :: r =>
      have hm : (x, y) ∈ shr ax ay bx b_y cx cy dx dy := by rw [e]; simp
      have c := (crossing_iff ..).1 (shr_cross hm)
      obtain ⟨o1, o2⟩ := shr_on hm
      have b1 := on_box o1
      have b2 := on_box o2
      exact ⟨c.1, by omega⟩
theorem sides {a b : Int} (h : a * b ≤ 0) : (a ≥ 0 ∨ b ≥ 0) ∧ (a ≤ 0 ∨ b ≤ 0) := by
  constructor
  · rcases Int.lt_or_le a 0 with k | k
    · rcases Int.lt_or_le b 0 with q | q
      · have := Int.mul_pos_of_neg_of_neg k q; omega
      · exact .inr q
    · exact .inl k
  · rcases Int.lt_or_le 0 a with k | k
    · rcases Int.lt_or_le 0 b with q | q
      · have := Int.mul_pos k q; omega
      · exact .inr q
    · exact .inl k
theorem in_hit {lx ly hx hy wx wy zx zy : Int} (hX : lx ≤ hx) (hY : ly ≤ hy) (h : inbox lx ly hx hy wx wy = true ∨ inbox lx ly hx hy zx zy = true ∨ edge4 lx ly hx hy wx wy zx zy) :
    meets lx ly hx hy wx wy zx zy ∧ both4 lx ly hx hy wx wy zx zy := by
  rcases h with h | h | h
  · rw [inbox_iff] at h
    exact ⟨by unfold meets; omega, zero_both h (by unfold crs; grind)⟩
  · rw [inbox_iff] at h
    exact ⟨by unfold meets; omega, zero_both h (by unfold crs; grind)⟩
  · have key : ∀ {cx cy dx dy : Int}, posS wx wy zx zy cx cy dx dy → (lx ≤ cx ∧ cx ≤ hx) → (ly ≤ cy ∧ cy ≤ hy) → (lx ≤ dx ∧ dx ≤ hx) → (ly ≤ dy ∧ dy ≤ hy) → meets lx ly hx hy wx wy zx zy ∧ ((crs wx wy zx zy cx cy ≥ 0 ∨ crs wx wy zx zy dx dy ≥ 0) ∧ (crs wx wy zx zy cx cy ≤ 0 ∨ crs wx wy zx zy dx dy ≤ 0)) := by
      intro cx cy dx dy hp h1 h2 h3 h4
      obtain ⟨p, q⟩ := pos_meets hp
      refine ⟨?_, sides p⟩
      unfold meets
      unfold mn mx at q
      (repeat' split at q) <;> omega
    unfold both4
    rcases h with h | h | h | h
    · have := key h (by omega) (by omega) (by omega) (by omega); exact ⟨this.1, by omega⟩
    · have := key h (by omega) (by omega) (by omega) (by omega); exact ⟨this.1, by omega⟩
    · have := key h (by omega) (by omega) (by omega) (by omega); exact ⟨this.1, by omega⟩
    · have := key h (by omega) (by omega) (by omega) (by omega); exact ⟨this.1, by omega⟩
/-- the document's hit -/
def refb (lx ly hx hy wx wy zx zy : Int) : Bool :=
  inbox lx ly hx hy wx wy || (inbox lx ly hx hy zx zy || (decide (meetN wx wy zx zy lx ly hx ly > 0) || (decide (meetN wx wy zx zy hx ly hx hy > 0) || (decide (meetN wx wy zx zy hx hy lx hy > 0) || decide (meetN wx wy zx zy lx hy lx ly > 0)))))
theorem refb_iff (lx ly hx hy wx wy zx zy : Int) : refb lx ly hx hy wx wy zx zy = true ↔ (inbox lx ly hx hy wx wy = true ∨ inbox lx ly hx hy zx zy = true ∨ edge4 lx ly hx hy wx wy zx zy) := by
  unfold refb edge4; simp only [Bool.or_eq_true, decide_eq_true_eq, posS_iff]
/-- the program's hit: the box of the segment, and the sides of the corners -/
def hitb (lx ly hx hy wx wy zx zy : Int) : Bool :=
  meet lx ly hx hy (mn wx zx) (mn wy zy) (mx wx zx) (mx wy zy) &&
  ((decide (cmp (crs wx wy zx zy lx ly) 0 ≥ 0) || (decide (cmp (crs wx wy zx zy hx ly) 0 ≥ 0) || (decide (cmp (crs wx wy zx zy hx hy) 0 ≥ 0) || decide (cmp (crs wx wy zx zy lx hy) 0 ≥ 0)))) &&
   (decide (cmp (crs wx wy zx zy lx ly) 0 ≤ 0) || (decide (cmp (crs wx wy zx zy hx ly) 0 ≤ 0) || (decide (cmp (crs wx wy zx zy hx hy) 0 ≤ 0) || decide (cmp (crs wx wy zx zy lx hy) 0 ≤ 0)))))
theorem cmp_ge0 (a : Int) : cmp a 0 ≥ 0 ↔ a ≥ 0 := by unfold cmp; (repeat' split) <;> omega
theorem cmp_le0 (a : Int) : cmp a 0 ≤ 0 ↔ a ≤ 0 := by unfold cmp; (repeat' split) <;> omega
theorem hit_eq {lx ly hx hy : Int} (hX : lx ≤ hx) (hY : ly ≤ hy) (wx wy zx zy : Int) : hitb lx ly hx hy wx wy zx zy = refb lx ly hx hy wx wy zx zy := by
  rw [Bool.eq_iff_iff, refb_iff]
  unfold hitb
  rw [meet_eq]
  simp only [Bool.and_eq_true, Bool.or_eq_true, decide_eq_true_eq, cmp_ge0, cmp_le0]
  have hm : (mx lx (mn wx zx) ≤ mn hx (mx wx zx) ∧ mx ly (mn wy zy) ≤ mn hy (mx wy zy)) ↔ meets lx ly hx hy wx wy zx zy := by
    unfold meets mx mn; constructor <;> intro h <;> (repeat' split at *) <;> omega
  rw [hm]
  exact ⟨fun h => hit_in hX hY h.1 h.2, fun h => in_hit hX hY h⟩
end Go.Proofs.Ytadifmimefmcnaa.Am.Sp

