import Derived.Test.YtomnkdlfmjdckaaNc7
import Derived.Test.YtomnkdlfmjdckaaSq1
set_option linter.unusedVariables false
set_option linter.unusedSimpArgs false
namespace Go.Proofs.Ytomnkdlfmjdckaa.Am.Sp
/-! The point that two segments have in common -/
/-- from + way * num / den -/
def alg (f w n d : Int) : Rat := ((f : Int) : Rat) + ((w * n : Int) : Rat) / ((d : Int) : Rat)
theorem alg_neg (f w n d : Int) : alg f w (0 - n) (0 - d) = alg f w n d := by
  unfold alg
  rw [Int.zero_sub, Int.zero_sub, Int.mul_neg, Rat.intCast_neg, Rat.intCast_neg]
  grind
theorem alg_split {f w n d : Int} (hd : 0 < d) : ((f + w * n / d : Int) : Rat) + ((w * n % d : Int) : Rat) / ((d : Int) : Rat) = alg f w n d := by
  unfold alg
  have h : ((d : Int) : Rat) ≠ 0 := by rw [Ne, Rat.intCast_eq_zero_iff]; omega
  have e : ((w * n : Int) : Rat) = ((w * n / d : Int) : Rat) * ((d : Int) : Rat) + ((w * n % d : Int) : Rat) := by
    rw [← Rat.intCast_mul, ← Rat.intCast_add, Int.ediv_mul_add_emod]
  rw [e, Rat.intCast_add]
  grind
theorem alg_eq {f w n d : Int} (hd : d ≠ 0) : alg f w n d * ((d : Int) : Rat) = ((f * d + w * n : Int) : Rat) := by
  unfold alg
  have h : ((d : Int) : Rat) ≠ 0 := by rw [Ne, Rat.intCast_eq_zero_iff]; omega
  rw [Rat.intCast_add, Rat.intCast_mul f d]
  grind
/-- two quotients are one number -/
theorem alg_same {f w n d g v m e : Int} (hd : d ≠ 0) (he : e ≠ 0) (h : (f * d + w * n) * e = (g * e + v * m) * d) : alg f w n d = alg g v m e := by
  have a := alg_eq (f := f) (w := w) (n := n) hd
  have b := alg_eq (f := g) (w := v) (n := m) he
  have hd' : ((d : Int) : Rat) ≠ 0 := by rw [Ne, Rat.intCast_eq_zero_iff]; omega
  have he' : ((e : Int) : Rat) ≠ 0 := by rw [Ne, Rat.intCast_eq_zero_iff]; omega
  have c : ((f * d + w * n : Int) : Rat) * ((e : Int) : Rat) = ((g * e + v * m : Int) : Rat) * ((d : Int) : Rat) := by rw [← Rat.intCast_mul, ← Rat.intCast_mul, h]
  rw [← a, ← b] at c
  grind
theorem alg_le {f w n d k : Int} (hd : 0 < d) : alg f w n d ≤ ((k : Int) : Rat) ↔ f * d + w * n ≤ k * d := by
  have a := alg_eq (f := f) (w := w) (n := n) (d := d) (by omega)
  have hd' : (0 : Rat) < ((d : Int) : Rat) := by rw [show (0 : Rat) = ((0 : Int) : Rat) by rfl, Rat.intCast_lt_intCast]; exact hd
  rw [← Rat.intCast_le_intCast, ← a, Rat.intCast_mul]
  constructor
  · intro h; exact Rat.mul_le_mul_of_nonneg_right h (Rat.le_of_lt hd')
  · intro h; exact Rat.le_of_mul_le_mul_right h hd'
theorem le_alg {f w n d k : Int} (hd : 0 < d) : ((k : Int) : Rat) ≤ alg f w n d ↔ k * d ≤ f * d + w * n := by
  have a := alg_eq (f := f) (w := w) (n := n) (d := d) (by omega)
  have hd' : (0 : Rat) < ((d : Int) : Rat) := by rw [show (0 : Rat) = ((0 : Int) : Rat) by rfl, Rat.intCast_lt_intCast]; exact hd
  rw [← Rat.intCast_le_intCast, ← a, Rat.intCast_mul]
  constructor
  · intro h; exact Rat.mul_le_mul_of_nonneg_right h (Rat.le_of_lt hd')
  · intro h; exact Rat.le_of_mul_le_mul_right h hd'
theorem alg_den (f w n d : Int) (hd : 0 < d) : ((alg f w n d).den : Int) ≤ d := by
  have e : alg f w n d = Rat.divInt (f * d + w * n) d := by
    have a := alg_eq (f := f) (w := w) (n := n) (d := d) (by omega)
    have hd' : ((d : Int) : Rat) ≠ 0 := by rw [Ne, Rat.intCast_eq_zero_iff]; omega
    rw [Rat.divInt_eq_div]
    grind
  rw [e]
  have := (bd_divInt (n := f * d + w * n) hd).2
  omega
theorem mul_den (q : Rat) : q * ((q.den : Int) : Rat) = ((q.num : Int) : Rat) := by
  have hd : ((q.den : Int) : Rat) ≠ 0 := by rw [Ne, Rat.intCast_eq_zero_iff]; have := q.den_pos; omega
  have e : ((q.num : Int) : Rat) / ((q.den : Int) : Rat) = q := by rw [← Rat.divInt_eq_div]; exact rat_self q
  conv => lhs; lhs; rw [← e]
  grind
theorem rat_le_mk {q : Rat} {k : Int} : q ≤ ((k : Int) : Rat) ↔ q.num ≤ k * q.den := by
  have e : q = Rat.divInt q.num (q.den : Int) := (rat_self q).symm
  have hd : (0 : Int) < (q.den : Int) := by have := q.den_pos; omega
  have a := mul_den q
  have hd' : (0 : Rat) < (((q.den : Int) : Int) : Rat) := by rw [show (0 : Rat) = ((0 : Int) : Rat) by rfl, Rat.intCast_lt_intCast]; exact hd
  rw [← Rat.intCast_le_intCast, ← a, Rat.intCast_mul]
  constructor
  · intro h; exact Rat.mul_le_mul_of_nonneg_right h (Rat.le_of_lt hd')
  · intro h; exact Rat.le_of_mul_le_mul_right h hd'
theorem mk_le_rat {q : Rat} {k : Int} : ((k : Int) : Rat) ≤ q ↔ k * q.den ≤ q.num := by
  have hd : (0 : Int) < (q.den : Int) := by have := q.den_pos; omega
  have a := mul_den q
  have hd' : (0 : Rat) < (((q.den : Int) : Int) : Rat) := by rw [show (0 : Rat) = ((0 : Int) : Rat) by rfl, Rat.intCast_lt_intCast]; exact hd
  rw [← Rat.intCast_le_intCast, ← a, Rat.intCast_mul]
  constructor
  · intro h; exact Rat.mul_le_mul_of_nonneg_right h (Rat.le_of_lt hd')
  · intro h; exact Rat.le_of_mul_le_mul_right h hd'
/-- a place of the plane is told by numbers of 64 bits -/
theorem place_fit {q : Rat} (h0 : ((-1048576 : Int) : Rat) ≤ q) (h1 : q ≤ ((1048576 : Int) : Rat)) (hd : (q.den : Int) ≤ 8796093022208) : fitq q = true := by
  rw [fitq_iff]
  rw [mk_le_rat] at h0
  rw [rat_le_mk] at h1
  have hp := q.den_pos
  refine ⟨?_, by omega⟩
  have hr := q.reduced
  rcases (show (q.den : Int) < 8796093022208 ∨ (q.den : Int) = 8796093022208 by omega) with k | k
  · omega
  · by_cases e : q.num.natAbs = 9223372036854775808
    · exfalso
      have e2 : q.den = 8796093022208 := by omega
      rw [e, e2] at hr
      exact absurd hr (by decide)
    · omega
end Go.Proofs.Ytomnkdlfmjdckaa.Am.Sp

set_option linter.unusedVariables false
set_option linter.unusedSimpArgs false
namespace Go.Proofs.Ytomnkdlfmjdckaa.Am.Sp
/-! Segments: more -/
theorem addb_on {l px py qx qy rx ry} (h : addb l px py qx qy rx ry = true) : onb qx qy rx ry px py = true := by
  unfold addb at h; rw [Bool.and_eq_true] at h; exact h.1
theorem addb_no {l px py qx qy rx ry} (h : addb l px py qx qy rx ry = true) : has2 l px py = false := by
  unfold addb at h; rw [Bool.and_eq_true] at h; simpa using h.2
theorem has2_mem {l : List (Int × Int)} {x y px py : Int} (hm : (x, y) ∈ l) (h : has2 l px py = false) : ((x == px) && ((y == py) && true)) = false := by
  unfold has2 at h
  rw [List.any_eq_false] at h
  have := h _ hm
  simpa using this
theorem cmp3 (ax ay bx b_y cx cy dx dy : Int) : (-1 ≤ cmp (crs ax ay bx b_y cx cy) 0 * cmp (crs ax ay bx b_y dx dy) 0 ∧ cmp (crs ax ay bx b_y cx cy) 0 * cmp (crs ax ay bx b_y dx dy) 0 ≤ 1) ∧
    (-1 ≤ cmp (crs cx cy dx dy ax ay) 0 * cmp (crs cx cy dx dy bx b_y) 0 ∧ cmp (crs cx cy dx dy ax ay) 0 * cmp (crs cx cy dx dy bx b_y) 0 ≤ 1) := by
  have a := cmp_bd (crs ax ay bx b_y cx cy) 0
  have b := cmp_bd (crs ax ay bx b_y dx dy) 0
  have c := cmp_bd (crs cx cy dx dy ax ay) 0
  have d := cmp_bd (crs cx cy dx dy bx b_y) 0
  have p := mul_bd a.1 a.2 b.1 b.2
  have q := mul_bd c.1 c.2 d.1 d.2
  omega
theorem prp_sg {ax ay bx b_y cx cy dx dy : Int} (h : prp ax ay bx b_y cx cy dx dy = true) : (crs cx cy dx dy ax ay < 0 ∧ 0 < crs cx cy dx dy bx b_y) ∨ (0 < crs cx cy dx dy ax ay ∧ crs cx cy dx dy bx b_y < 0) := by
  rw [prp_iff] at h
  have h := h.2
  generalize crs cx cy dx dy ax ay = x at *
  generalize crs cx cy dx dy bx b_y = y at *
  rcases Int.lt_trichotomy x 0 with k | k | k
  · refine .inl ⟨k, ?_⟩
    rcases Int.lt_or_le 0 y with q | q
    · exact q
    · have := Int.mul_nonneg_of_nonpos_of_nonpos (Int.le_of_lt k) q; omega
  · subst k; simp at h
  · refine .inr ⟨k, ?_⟩
    rcases Int.lt_or_le y 0 with q | q
    · exact q
    · have := Int.mul_nonneg (Int.le_of_lt k) q; omega
theorem meetN_prp {ax ay bx b_y cx cy dx dy : Int} (h : prp ax ay bx b_y cx cy dx dy = true) : meetN ax ay bx b_y cx cy dx dy = 1 := if_pos h
theorem meetN_one {ax ay bx b_y cx cy dx dy x y : Int} (h : shr ax ay bx b_y cx cy dx dy = [(x, y)]) : meetN ax ay bx b_y cx cy dx dy = 1 := by
  unfold meetN; rw [h]
  split <;> rfl
def spx (ax ay bx b_y cx cy dx dy : Int) : Int := ((shr ax ay bx b_y cx cy dx dy).headD (0, 0)).1
def spy (ax ay bx b_y cx cy dx dy : Int) : Int := ((shr ax ay bx b_y cx cy dx dy).headD (0, 0)).2
theorem one_sp {ax ay bx b_y cx cy dx dy : Int} (h0 : ¬ meetN ax ay bx b_y cx cy dx dy = 0) (h2 : ¬ meetN ax ay bx b_y cx cy dx dy = 2) (hp : prp ax ay bx b_y cx cy dx dy = false) :
    shr ax ay bx b_y cx cy dx dy = [(spx ax ay bx b_y cx cy dx dy, spy ax ay bx b_y cx cy dx dy)] := by
  unfold meetN at h0 h2
  rw [if_neg (by rw [hp]; decide)] at h0 h2
  unfold spx spy
  match e : shr ax ay bx b_y cx cy dx dy with
  | [] => rw [e] at h0; exact absurd rfl h0
  | [z] => rfl
  | _ :: _ :: r => rw [e] at h2; exfalso; apply h2; unfold mn; rw [if_neg]; simp only [List.length_cons]; omega
theorem one_mem {ax ay bx b_y cx cy dx dy x y : Int} (h : shr ax ay bx b_y cx cy dx dy = [(x, y)]) : (x, y) ∈ shr ax ay bx b_y cx cy dx dy := by rw [h]; simp
theorem one_bd {ax ay bx b_y cx cy dx dy x y : Int} (h : shr ax ay bx b_y cx cy dx dy = [(x, y)])
    (axl : -1048576 ≤ ax) (axu : ax ≤ 1048576) (ayl : -1048576 ≤ ay) (ayu : ay ≤ 1048576) (bxl : -1048576 ≤ bx) (bxu : bx ≤ 1048576) (b_yl : -1048576 ≤ b_y) (b_yu : b_y ≤ 1048576)
    (cxl : -1048576 ≤ cx) (cxu : cx ≤ 1048576) (cyl : -1048576 ≤ cy) (cyu : cy ≤ 1048576) (dxl : -1048576 ≤ dx) (dxu : dx ≤ 1048576) (dyl : -1048576 ≤ dy) (dyu : dy ≤ 1048576) :
    (-1048576 ≤ x ∧ x ≤ 1048576) ∧ (-1048576 ≤ y ∧ y ≤ 1048576) := by
  have hm := one_mem h
  rw [mem_shr] at hm
  rcases hm with ⟨e, _⟩ | ⟨e, _⟩ | ⟨e, _⟩ | ⟨e, _⟩ <;> (cases e) <;> omega
theorem along_bd {w n d : Int} (n0 : 0 ≤ n) (n1 : n ≤ d) (d0 : 0 < d) (w0 : -2097152 ≤ w) (w1 : w ≤ 2097152) : -2097152 ≤ w * n / d ∧ w * n / d ≤ 2097152 := by
  have e1 : -2097152 * d ≤ w * n := by
    have a : -2097152 * n ≤ w * n := Int.mul_le_mul_of_nonneg_right w0 n0
    omega
  have e2 : w * n ≤ 2097152 * d := by
    have a : w * n ≤ 2097152 * n := Int.mul_le_mul_of_nonneg_right w1 n0
    omega
  exact ⟨Int.le_ediv_of_mul_le d0 e1, Int.le_of_lt_add_one (Int.ediv_lt_of_lt_mul d0 (by omega))⟩
theorem ne_rat {d : Int} (h : d ≠ 0) : ((d : Int) : Rat) ≠ 0 := by rw [Ne, Rat.intCast_eq_zero_iff]; exact h
theorem part_fit {r d : Int} (h0 : 0 ≤ r) (h1 : r < d) (h2 : d ≤ 9223372036854775807) : fitq (((r : Int) : Rat) / ((d : Int) : Rat)) = true := by
  rw [← Rat.divInt_eq_div]
  exact bd_fit (bd_divInt (by omega)) (by omega) (by omega)
theorem in64_of {x : Int} (h0 : -9223372036854775808 ≤ x) (h1 : x ≤ 9223372036854775807) : in64 x = true := by unfold in64; simp; omega
/-- the point where two segments cross -/
def cpx (ax ay bx b_y cx cy dx dy : Int) : Rat := alg ax (bx - ax) (crs cx cy dx dy ax ay) (crs cx cy dx dy ax ay - crs cx cy dx dy bx b_y)
def cpy (ax ay bx b_y cx cy dx dy : Int) : Rat := alg ay (b_y - ay) (crs cx cy dx dy ax ay) (crs cx cy dx dy ax ay - crs cx cy dx dy bx b_y)
theorem between {p q n m : Int} (h : (n < 0 ∧ 0 < m) ∨ (0 < n ∧ m < 0)) {lo hi : Int} (h0 : lo ≤ p) (h1 : lo ≤ q) (h2 : p ≤ hi) (h3 : q ≤ hi) :
    ((lo : Int) : Rat) ≤ alg p (q - p) n (n - m) ∧ alg p (q - p) n (n - m) ≤ ((hi : Int) : Rat) := by
  have main : ∀ n m : Int, 0 < n → m < 0 → ((lo : Int) : Rat) ≤ alg p (q - p) n (n - m) ∧ alg p (q - p) n (n - m) ≤ ((hi : Int) : Rat) := by
    intro n m a b
    rw [le_alg (by omega), alg_le (by omega)]
    have e : p * (n - m) + (q - p) * n = p * (-m) + q * n := by grind
    rw [e]
    have a1 := Int.mul_le_mul_of_nonneg_right h0 (show 0 ≤ -m by omega)
    have a2 := Int.mul_le_mul_of_nonneg_right h1 (show 0 ≤ n by omega)
    have a3 := Int.mul_le_mul_of_nonneg_right h2 (show 0 ≤ -m by omega)
    have a4 := Int.mul_le_mul_of_nonneg_right h3 (show 0 ≤ n by omega)
    have e2 : lo * (n - m) = lo * (-m) + lo * n := by grind
    have e3 : hi * (n - m) = hi * (-m) + hi * n := by grind
    rw [e2, e3]
    omega
  rcases h with ⟨a, b⟩ | ⟨a, b⟩
  · have := main (0 - n) (0 - m) (by omega) (by omega)
    rw [show 0 - n - (0 - m) = 0 - (n - m) by omega, alg_neg] at this
    exact this
  · exact main n m a b
theorem den_le {f w n m D : Int} (h : (n < 0 ∧ 0 < m) ∨ (0 < n ∧ m < 0)) (h0 : -D ≤ n - m) (h1 : n - m ≤ D) : ((alg f w n (n - m)).den : Int) ≤ D := by
  rcases h with ⟨a, b⟩ | ⟨a, b⟩
  · have := alg_den f w (0 - n) (0 - (n - m)) (by omega)
    rw [alg_neg] at this; omega
  · have := alg_den f w n (n - m) (by omega); omega
theorem sden_bd {ax ay bx b_y cx cy dx dy : Int}
    (axl : -1048576 ≤ ax) (axu : ax ≤ 1048576) (ayl : -1048576 ≤ ay) (ayu : ay ≤ 1048576) (bxl : -1048576 ≤ bx) (bxu : bx ≤ 1048576) (b_yl : -1048576 ≤ b_y) (b_yu : b_y ≤ 1048576)
    (cxl : -1048576 ≤ cx) (cxu : cx ≤ 1048576) (cyl : -1048576 ≤ cy) (cyu : cy ≤ 1048576) (dxl : -1048576 ≤ dx) (dxu : dx ≤ 1048576) (dyl : -1048576 ≤ dy) (dyu : dy ≤ 1048576) :
    -8796093022208 ≤ crs cx cy dx dy ax ay - crs cx cy dx dy bx b_y ∧ crs cx cy dx dy ax ay - crs cx cy dx dy bx b_y ≤ 8796093022208 := by
  rw [den_cd]
  unfold den4
  have p1 := mul_bd (a := bx - ax) (b := dy - cy) (A := 2097152) (B := 2097152) (by omega) (by omega) (by omega) (by omega)
  have p2 := mul_bd (a := b_y - ay) (b := dx - cx) (A := 2097152) (B := 2097152) (by omega) (by omega) (by omega) (by omega)
  omega
theorem cp_fit {ax ay bx b_y cx cy dx dy : Int} (h : prp ax ay bx b_y cx cy dx dy = true)
    (axl : -1048576 ≤ ax) (axu : ax ≤ 1048576) (ayl : -1048576 ≤ ay) (ayu : ay ≤ 1048576) (bxl : -1048576 ≤ bx) (bxu : bx ≤ 1048576) (b_yl : -1048576 ≤ b_y) (b_yu : b_y ≤ 1048576)
    (cxl : -1048576 ≤ cx) (cxu : cx ≤ 1048576) (cyl : -1048576 ≤ cy) (cyu : cy ≤ 1048576) (dxl : -1048576 ≤ dx) (dxu : dx ≤ 1048576) (dyl : -1048576 ≤ dy) (dyu : dy ≤ 1048576) :
    fitq (cpx ax ay bx b_y cx cy dx dy) = true ∧ fitq (cpy ax ay bx b_y cx cy dx dy) = true := by
  have sg := prp_sg h
  have db := sden_bd axl axu ayl ayu bxl bxu b_yl b_yu cxl cxu cyl cyu dxl dxu dyl dyu
  have b1 := between sg axl bxl axu bxu
  have b2 := between sg ayl b_yl ayu b_yu
  exact ⟨place_fit b1.1 b1.2 (den_le sg db.1 db.2), place_fit b2.1 b2.2 (den_le sg db.1 db.2)⟩
/-! distances -/
def sqn (px py ax ay bx b_y : Int) : Int := if dot ax ay bx b_y px py ≤ 0 then dot ax ay px py px py else if dot ax ay bx b_y px py ≥ dot ax ay bx b_y bx b_y then dot bx b_y px py px py else crs ax ay bx b_y px py * crs ax ay bx b_y px py
def sqd (px py ax ay bx b_y : Int) : Int := if dot ax ay bx b_y px py ≤ 0 then 1 else if dot ax ay bx b_y px py ≥ dot ax ay bx b_y bx b_y then 1 else dot ax ay bx b_y bx b_y
theorem sq_cases (px py ax ay bx b_y : Int) :
    (dot ax ay bx b_y px py ≤ 0 → dot ax ay px py px py = sqn px py ax ay bx b_y ∧ 1 = sqd px py ax ay bx b_y) ∧
    (¬ dot ax ay bx b_y px py ≤ 0 → dot ax ay bx b_y px py ≥ dot ax ay bx b_y bx b_y → dot bx b_y px py px py = sqn px py ax ay bx b_y ∧ 1 = sqd px py ax ay bx b_y) ∧
    (¬ dot ax ay bx b_y px py ≤ 0 → ¬ dot ax ay bx b_y px py ≥ dot ax ay bx b_y bx b_y → crs ax ay bx b_y px py * crs ax ay bx b_y px py = sqn px py ax ay bx b_y ∧ dot ax ay bx b_y bx b_y = sqd px py ax ay bx b_y) := by
  unfold sqn sqd
  refine ⟨fun h => ?_, fun h k => ?_, fun h k => ?_⟩
  · rw [if_pos h, if_pos h]; exact ⟨rfl, rfl⟩
  · rw [if_neg h, if_neg h, if_pos k, if_pos k]; exact ⟨rfl, rfl⟩
  · rw [if_neg h, if_neg h, if_neg k, if_neg k]; exact ⟨rfl, rfl⟩
theorem dist_num (px py ax ay bx b_y : Int) : dot ax ay px py px py * dot ax ay bx b_y bx b_y - dot ax ay bx b_y px py * dot ax ay bx b_y px py = crs ax ay bx b_y px py * crs ax ay bx b_y px py := by
  have := lagrange ax ay bx b_y px py
  have e := Int.mul_comm (dot ax ay px py px py) (dot ax ay bx b_y bx b_y)
  omega
theorem dot_bd2 {ax ay px py : Int} (axl : -1048576 ≤ ax) (axu : ax ≤ 1048576) (ayl : -1048576 ≤ ay) (ayu : ay ≤ 1048576) (pxl : -1048576 ≤ px) (pxu : px ≤ 1048576) (pyl : -1048576 ≤ py) (pyu : py ≤ 1048576) :
    0 ≤ dot ax ay px py px py ∧ dot ax ay px py px py ≤ 8796093022208 := by
  refine ⟨dot_nonneg .., ?_⟩
  unfold dot
  have p1 := mul_bd (a := px - ax) (b := px - ax) (A := 2097152) (B := 2097152) (by omega) (by omega) (by omega) (by omega)
  have p2 := mul_bd (a := py - ay) (b := py - ay) (A := 2097152) (B := 2097152) (by omega) (by omega) (by omega) (by omega)
  omega
theorem sq_all {px py ax ay bx b_y : Int} (pxl : -1048576 ≤ px) (pxu : px ≤ 1048576) (pyl : -1048576 ≤ py) (pyu : py ≤ 1048576)
    (axl : -1048576 ≤ ax) (axu : ax ≤ 1048576) (ayl : -1048576 ≤ ay) (ayu : ay ≤ 1048576) (bxl : -1048576 ≤ bx) (bxu : bx ≤ 1048576) (b_yl : -1048576 ≤ b_y) (b_yu : b_y ≤ 1048576) :
    (0 ≤ sqn px py ax ay bx b_y ∧ sqn px py ax ay bx b_y ≤ 8796093022208 * sqd px py ax ay bx b_y) ∧ (1 ≤ sqd px py ax ay bx b_y ∧ sqd px py ax ay bx b_y ≤ 8796093022208) := by
  have d1 := dot_bd2 axl axu ayl ayu pxl pxu pyl pyu
  have d2 := dot_bd2 bxl bxu b_yl b_yu pxl pxu pyl pyu
  have d3 := dot_bd2 axl axu ayl ayu bxl bxu b_yl b_yu
  unfold sqn sqd
  split
  · omega
  · split
    · omega
    · have l := dist_num px py ax ay bx b_y
      have s1 := sqr_nonneg (crs ax ay bx b_y px py)
      have s2 := sqr_nonneg (dot ax ay bx b_y px py)
      have m := Int.mul_le_mul_of_nonneg_right d1.2 d3.1
      omega
theorem sq_bd (px py ax ay bx b_y : Int) (pxl : -1048576 ≤ px) (pxu : px ≤ 1048576) (pyl : -1048576 ≤ py) (pyu : py ≤ 1048576)
    (axl : -1048576 ≤ ax) (axu : ax ≤ 1048576) (ayl : -1048576 ≤ ay) (ayu : ay ≤ 1048576) (bxl : -1048576 ≤ bx) (bxu : bx ≤ 1048576) (b_yl : -1048576 ≤ b_y) (b_yu : b_y ≤ 1048576) :
    (0 ≤ sqn px py ax ay bx b_y ∧ sqn px py ax ay bx b_y ≤ 77371252455336267181195264) ∧ (1 ≤ sqd px py ax ay bx b_y ∧ sqd px py ax ay bx b_y ≤ 8796093022208) := by
  have h := sq_all pxl pxu pyl pyu axl axu ayl ayu bxl bxu b_yl b_yu
  omega
def wthn (px py ax ay bx b_y k : Int) : Bool := decide (0 ≤ k) && decide (sqn px py ax ay bx b_y ≤ mn k 4194304 * mn k 4194304 * sqd px py ax ay bx b_y)
theorem wthn_neg {px py ax ay bx b_y k : Int} (h : mn k 4194304 < 0) : wthn px py ax ay bx b_y k = false := by
  unfold wthn; rw [decide_eq_false (by unfold mn at h; split at h <;> omega)]; rfl
theorem wthn_pos {px py ax ay bx b_y k : Int} (h : ¬ mn k 4194304 < 0) : wthn px py ax ay bx b_y k = decide (sqn px py ax ay bx b_y ≤ mn k 4194304 * mn k 4194304 * sqd px py ax ay bx b_y) := by
  unfold wthn; rw [decide_eq_true (by unfold mn at h; split at h <;> omega)]; rfl
theorem cmp_le_dec (a b : Int) : decide (cmp a b ≤ 0) = decide (a ≤ b) := by rw [Bool.eq_iff_iff, decide_eq_true_eq, decide_eq_true_eq]; exact cmp_le a b
theorem mn_by (k : Int) : mn k 4194304 ≤ 4194304 ∧ (¬ mn k 4194304 < 0 → (0 ≤ mn k 4194304 * mn k 4194304 ∧ mn k 4194304 * mn k 4194304 ≤ 17592186044416)) := by
  have h : mn k 4194304 ≤ 4194304 := by unfold mn; split <;> omega
  refine ⟨h, fun h0 => ?_⟩
  have := mul_bd (a := mn k 4194304) (b := mn k 4194304) (A := 4194304) (B := 4194304) (by omega) (by omega) (by omega) (by omega)
  have := sqr_nonneg (mn k 4194304)
  omega
theorem mn_sq (k d : Int) (h0 : 1 ≤ d) (h1 : d ≤ 8796093022208) : ¬ mn k 4194304 < 0 → (0 ≤ mn k 4194304 * mn k 4194304 * d ∧ mn k 4194304 * mn k 4194304 * d ≤ 154742504910672534362390528) := by
  intro h
  have a := (mn_by k).2 h
  generalize mn k 4194304 * mn k 4194304 = x at *
  have b := Int.mul_nonneg a.1 (show 0 ≤ d by omega)
  have c := Int.mul_le_mul_of_nonneg_right a.2 (show 0 ≤ d by omega)
  omega
theorem near_eq (px py ax ay bx b_y k : Int) (pxl : -1048576 ≤ px) (pxu : px ≤ 1048576) (pyl : -1048576 ≤ py) (pyu : py ≤ 1048576)
    (axl : -1048576 ≤ ax) (axu : ax ≤ 1048576) (ayl : -1048576 ≤ ay) (ayu : ay ≤ 1048576) (bxl : -1048576 ≤ bx) (bxu : bx ≤ 1048576) (b_yl : -1048576 ≤ b_y) (b_yu : b_y ≤ 1048576) :
    (k ≥ 0 → decide (sgn (sqn px py ax ay bx b_y - k * k * sqd px py ax ay bx b_y) ≤ 0) = wthn px py ax ay bx b_y k) ∧ (¬ k ≥ 0 → false = wthn px py ax ay bx b_y k) := by
  have h := sq_all pxl pxu pyl pyu axl axu ayl ayu bxl bxu b_yl b_yu
  unfold wthn
  constructor
  · intro h0
    rw [decide_eq_true (show 0 ≤ k by omega), Bool.true_and, Bool.eq_iff_iff, decide_eq_true_eq, decide_eq_true_eq]
    have sg : ∀ z : Int, sgn z ≤ 0 ↔ z ≤ 0 := fun z => by unfold sgn; (repeat' split) <;> omega
    rw [sg]
    by_cases hk : k ≤ 4194304
    · rw [show mn k 4194304 = k by unfold mn; split <;> omega]; omega
    · rw [show mn k 4194304 = 4194304 by unfold mn; split <;> omega]
      have k1 : 4194304 * 4194304 ≤ k * k := Int.mul_le_mul (by omega) (by omega) (by omega) (by omega)
      have k2 := Int.mul_le_mul_of_nonneg_right k1 (show 0 ≤ sqd px py ax ay bx b_y by omega)
      constructor <;> intro _ <;> omega
  · intro h0
    rw [decide_eq_false (show ¬ 0 ≤ k by omega)]; rfl
end Go.Proofs.Ytomnkdlfmjdckaa.Am.Sp

