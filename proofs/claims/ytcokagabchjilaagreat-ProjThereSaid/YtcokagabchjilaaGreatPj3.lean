import Derived.Test.YtcokagabchjilaaGreatSp6
import Derived.Test.YtcokagabchjilaaGreatNc7
set_option linter.unusedVariables false
set_option linter.unusedSimpArgs false
namespace Go.Proofs.YtcokagabchjilaaGreat.Am.Sp
/-! Rounding, and what is needed of boxes -/
theorem mul_den (q : Rat) : q * ((q.den : Int) : Rat) = ((q.num : Int) : Rat) := by
  have hd : ((q.den : Int) : Rat) ≠ 0 := by rw [Ne, Rat.intCast_eq_zero_iff]; have := q.den_pos; omega
  have e : ((q.num : Int) : Rat) / ((q.den : Int) : Rat) = q := by rw [← Rat.divInt_eq_div]; exact rat_self q
  conv => lhs; lhs; rw [← e]
  grind
theorem ne_rat {d : Int} (h : d ≠ 0) : ((d : Int) : Rat) ≠ 0 := by rw [Ne, Rat.intCast_eq_zero_iff]; exact h
theorem rnd_num (q : Rat) : 2 * rnd q * q.den ≤ 2 * q.num + q.den ∧ 2 * q.num - q.den ≤ 2 * rnd q * q.den := by
  have hd : (0 : Int) < (q.den : Int) := by have := q.den_pos; omega
  have ef : q.floor = q.num / q.den := Rat.floor_def q
  have em := Int.ediv_mul_add_emod q.num q.den
  have e0 := Int.emod_nonneg q.num (b := (q.den : Int)) (by omega)
  have e1 := Int.emod_lt_of_pos q.num hd
  unfold rnd
  rw [ef]
  generalize q.num / (q.den : Int) = k at *
  generalize q.num % (q.den : Int) = r at *
  generalize (q.den : Int) = d at *
  split
  · have : 2 * (k + 1) * d = 2 * (k * d) + 2 * d := by grind
    omega
  · have : 2 * k * d = 2 * (k * d) := by grind
    omega
theorem okb_bd {x y : Int} (h : okb x y = true) : (-1048576 ≤ x ∧ x ≤ 1048576) ∧ (-1048576 ≤ y ∧ y ≤ 1048576) := by
  unfold okb at h
  simp only [Bool.and_true, Bool.and_eq_true, beq_iff_eq] at h
  have a := lim_bd (m := 1048576) (by decide) x
  have b := lim_bd (m := 1048576) (by decide) y
  omega
end Go.Proofs.YtcokagabchjilaaGreat.Am.Sp

set_option linter.unusedVariables false
set_option linter.unusedSimpArgs false
namespace Go.Proofs.YtcokagabchjilaaGreat.Am.Sp
/-! Fixed numbers as fractions; angles and cosines -/
def fx (D n : Int) : Rat := ((n : Int) : Rat) / ((D : Int) : Rat)
theorem fx_num {D : Int} (h : 0 < D) (n : Int) : fx D n * ((D : Int) : Rat) = ((n : Int) : Rat) := by
  have := ne_rat (show D ≠ 0 by omega)
  unfold fx; grind
theorem fx_divInt (D n : Int) : fx D n = Rat.divInt n D := by unfold fx; rw [Rat.divInt_eq_div]
theorem fx_fit {D n : Int} (h0 : 0 < D) (h1 : D ≤ 9223372036854775807) (h2 : -9223372036854775807 ≤ n) (h3 : n ≤ 9223372036854775807) : fitq (fx D n) = true := by
  rw [fx_divInt]; exact bd_fit (bd_divInt h0) (by omega) (by omega)
theorem fx_mul (D E a c : Int) : fx D a * fx E c = fx (D * E) (a * c) := by
  unfold fx; rw [Rat.intCast_mul, Rat.intCast_mul]; grind
theorem fx_pos {D : Int} (h : 0 < D) : (0 : Rat) < ((D : Int) : Rat) := by rw [show (0 : Rat) = ((0 : Int) : Rat) by rfl, Rat.intCast_lt_intCast]; exact h
theorem fx_le {D a b : Int} (h : 0 < D) : fx D a ≤ fx D b ↔ a ≤ b := by
  have p := fx_pos h
  rw [← Rat.intCast_le_intCast, ← fx_num h a, ← fx_num h b]
  exact ⟨fun q => Rat.mul_le_mul_of_nonneg_right q (Rat.le_of_lt p), fun q => Rat.le_of_mul_le_mul_right q p⟩
theorem fx_lt {D a b : Int} (h : 0 < D) : fx D a < fx D b ↔ a < b := by
  have := fx_le (a := b) (b := a) h
  rw [← Rat.not_le, this]; omega
theorem fx_min {D : Int} (h : 0 < D) (a b : Int) : rmin (fx D a) (fx D b) = fx D (mn a b) := by
  unfold rmin mn
  by_cases k : b < a
  · rw [if_pos ((fx_lt h).2 k), if_pos k]
  · rw [if_neg (fun q => k ((fx_lt h).1 q)), if_neg k]
theorem fx_max {D : Int} (h : 0 < D) (a b : Int) : rmax (fx D a) (fx D b) = fx D (mx a b) := by
  unfold rmax mx
  by_cases k : b > a
  · rw [if_pos ((fx_lt h).2 k), if_pos k]
  · rw [if_neg (fun q => k ((fx_lt h).1 q)), if_neg k]
theorem fx_neg (D a : Int) : -fx D a = fx D (-a) := by unfold fx; rw [Rat.intCast_neg]; grind
theorem fx_add (D a b : Int) : fx D a + fx D b = fx D (a + b) := by unfold fx; rw [Rat.intCast_add]; grind
theorem fx_scale {D K : Int} (hD : 0 < D) (hK : 0 < K) (a : Int) : fx D a = fx (K * D) (K * a) := by
  have := ne_rat (show D ≠ 0 by omega); have := ne_rat (show K ≠ 0 by omega)
  unfold fx; rw [Rat.intCast_mul, Rat.intCast_mul]; grind
theorem fx_int {D : Int} (h : 0 < D) (k : Int) : ((k : Int) : Rat) = fx D (k * D) := by
  have := ne_rat (show D ≠ 0 by omega)
  unfold fx; rw [Rat.intCast_mul]; grind
theorem floor_is {q : Rat} {k : Int} (h0 : ((k : Int) : Rat) ≤ q) (h1 : q < ((k + 1 : Int) : Rat)) : q.floor = k := by
  have a := fl_le q
  have b := fl_lt q
  have c : q.floor < k + 1 := Rat.intCast_lt_intCast.1 (by grind)
  have d : k < q.floor + 1 := Rat.intCast_lt_intCast.1 (by rw [Rat.intCast_add q.floor]; have : ((1 : Int) : Rat) = 1 := rfl; grind)
  omega
theorem fx_floor {D : Int} (h : 0 < D) (a : Int) : (fx D a).floor = a / D := by
  have m := Int.ediv_mul_add_emod a D
  have m0 := Int.emod_nonneg a (show D ≠ 0 by omega)
  have m1 := Int.emod_lt_of_pos a h
  have e : (a / D + 1) * D = a / D * D + D := by grind
  refine floor_is ?_ ?_
  · rw [fx_int h, fx_le h]; omega
  · rw [fx_int h, fx_lt h]; omega
/-- rounded outward to multiples of 1 / N -/
theorem fx_times {K : Int} (hK : 0 < K) {N : Int} (hN : 0 < N) (x : Int) : fx (N * K) x * ((N : Int) : Rat) = fx K x := by
  have := ne_rat (show K ≠ 0 by omega); have := ne_rat (show N ≠ 0 by omega)
  unfold fx; rw [Rat.intCast_mul]; grind
theorem oL_fx {K N : Int} (hK : 0 < K) (hN : 0 < N) (x : Int) : oL (fx (N * K) x) N = fx N (x / K) := by
  unfold oL; rw [fx_times hK hN, fx_floor hK]; rfl
theorem oH_fx {K N : Int} (hK : 0 < K) (hN : 0 < N) (x : Int) : oH (fx (N * K) x) N = fx N (-(-x / K)) := by
  unfold oH; rw [fx_neg, fx_times hK hN, fx_floor hK]; rfl
theorem fx_by (D N x : Int) : fx D x * ((N : Int) : Rat) = fx D (x * N) := by unfold fx; rw [Rat.intCast_mul]; grind
theorem oL_fy {D N : Int} (hD : 0 < D) (x : Int) : oL (fx D x) N = fx N (x * N / D) := by
  unfold oL; rw [fx_by, fx_floor hD]; rfl
theorem oH_fy {D N : Int} (hD : 0 < D) (x : Int) : oH (fx D x) N = fx N (-(-x * N / D)) := by
  unfold oH; rw [fx_neg, fx_by, fx_floor hD]; rfl
/-- the least and the greatest of four -/
def n4 (p q r s : Int) : Int := mn (mn (mn p q) r) s
def y4 (p q r s : Int) : Int := mx (mx (mx p q) r) s
theorem n4_le (p q r s : Int) : (n4 p q r s ≤ p ∧ n4 p q r s ≤ q ∧ n4 p q r s ≤ r ∧ n4 p q r s ≤ s) ∧ (n4 p q r s = p ∨ n4 p q r s = q ∨ n4 p q r s = r ∨ n4 p q r s = s) := by
  unfold n4 mn; (repeat' split) <;> omega
theorem y4_ge (p q r s : Int) : (p ≤ y4 p q r s ∧ q ≤ y4 p q r s ∧ r ≤ y4 p q r s ∧ s ≤ y4 p q r s) ∧ (y4 p q r s = p ∨ y4 p q r s = q ∨ y4 p q r s = r ∨ y4 p q r s = s) := by
  unfold y4 mx; (repeat' split) <;> omega
/-- the product of two spans, rounded outward -/
def oq (K : Int) (a b c d : Int) : Int × Int := (n4 (a * c) (a * d) (b * c) (b * d) / K, -(-(y4 (a * c) (a * d) (b * c) (b * d)) / K))
theorem fx_m4 {D : Int} (h : 0 < D) (p q r s : Int) : rmin (rmin (rmin (fx D p) (fx D q)) (fx D r)) (fx D s) = fx D (n4 p q r s) := by
  unfold n4; rw [fx_min h, fx_min h, fx_min h]
theorem fx_x4 {D : Int} (h : 0 < D) (p q r s : Int) : rmax (rmax (rmax (fx D p) (fx D q)) (fx D r)) (fx D s) = fx D (y4 p q r s) := by
  unfold y4; rw [fx_max h, fx_max h, fx_max h]
theorem oq_fx {D E K : Int} (hD : 0 < D) (hE : 0 < E) (hK : 0 < K) {N : Int} (hN : 0 < N) (h : D * E = N * K) (a b c d : Int) :
    oL (rmin (rmin (rmin (fx D a * fx E c) (fx D a * fx E d)) (fx D b * fx E c)) (fx D b * fx E d)) N = fx N (oq K a b c d).1 ∧
    oH (rmax (rmax (rmax (fx D a * fx E c) (fx D a * fx E d)) (fx D b * fx E c)) (fx D b * fx E d)) N = fx N (oq K a b c d).2 := by
  have p : 0 < D * E := Int.mul_pos hD hE
  simp only [fx_mul]
  rw [fx_m4 p, fx_x4 p, h, oL_fx hK hN, oH_fx hK hN]
  exact ⟨rfl, rfl⟩
theorem ediv_bd' {x K C : Int} (hK : 0 < K) (h0 : -(C * K) ≤ x) (h1 : x ≤ C * K) : -C ≤ x / K ∧ x / K ≤ C := by
  constructor
  · exact Int.le_ediv_of_mul_le hK (by rw [Int.neg_mul]; exact h0)
  · have e : (C + 1) * K = C * K + K := by grind
    exact Int.le_of_lt_add_one (Int.ediv_lt_of_lt_mul hK (by omega))
theorem oq_le {K a b c d : Int} (hK : 0 < K) : (oq K a b c d).1 ≤ (oq K a b c d).2 := by
  have h1 := n4_le (a * c) (a * d) (b * c) (b * d)
  have h2 := y4_ge (a * c) (a * d) (b * c) (b * d)
  have h : n4 (a * c) (a * d) (b * c) (b * d) ≤ y4 (a * c) (a * d) (b * c) (b * d) := by omega
  unfold oq
  show n4 (a * c) (a * d) (b * c) (b * d) / K ≤ -(-y4 (a * c) (a * d) (b * c) (b * d) / K)
  generalize n4 (a * c) (a * d) (b * c) (b * d) = x at *
  generalize y4 (a * c) (a * d) (b * c) (b * d) = y at *
  have e1 := Int.ediv_mul_add_emod x K
  have e2 := Int.ediv_mul_add_emod (-y) K
  have f1 := Int.emod_nonneg x (show K ≠ 0 by omega)
  have f2 := Int.emod_nonneg (-y) (show K ≠ 0 by omega)
  generalize x / K = u at *
  generalize -y / K = v at *
  rcases Int.lt_or_le (-v) u with k | k
  · exfalso
    have : (1 : Int) * K ≤ (u + v) * K := Int.mul_le_mul_of_nonneg_right (by omega) (by omega)
    have e3 : (u + v) * K = u * K + v * K := by grind
    omega
  · exact k
theorem oq_bd {K a b c d A B C : Int} (hK : 0 < K) (hC : A * B ≤ C * K) (a0 : -A ≤ a) (a1 : a ≤ A) (b0 : -A ≤ b) (b1 : b ≤ A) (c0 : -B ≤ c) (c1 : c ≤ B) (d0 : -B ≤ d) (d1 : d ≤ B) :
    (-C ≤ (oq K a b c d).1 ∧ (oq K a b c d).1 ≤ C) ∧ (-C ≤ (oq K a b c d).2 ∧ (oq K a b c d).2 ≤ C) := by
  have h1 := n4_le (a * c) (a * d) (b * c) (b * d)
  have h2 := y4_ge (a * c) (a * d) (b * c) (b * d)
  have p1 := mul_bd a0 a1 c0 c1
  have p2 := mul_bd a0 a1 d0 d1
  have p3 := mul_bd b0 b1 c0 c1
  have p4 := mul_bd b0 b1 d0 d1
  have u := ediv_bd' (x := n4 (a * c) (a * d) (b * c) (b * d)) (C := C) hK (by omega) (by omega)
  have v := ediv_bd' (x := -y4 (a * c) (a * d) (b * c) (b * d)) (C := C) hK (by omega) (by omega)
  exact ⟨u, by show -C ≤ -(_ / K) ∧ -(_ / K) ≤ C; omega⟩
/-- a span through a number -/
def thq (n a b : Int) : Int × Int := (a / n, -(-b / n))
theorem oq_one {n a b : Int} (h : a ≤ b) : oq n a b 1 1 = thq n a b := by
  unfold oq thq n4 y4 mn mx
  simp only [Int.mul_one]
  rw [show (if (if (if a < a then a else a) > b then b else if a < a then a else a) > b then b else if (if a < a then a else a) > b then b else if a < a then a else a) = a by (repeat' split) <;> omega,
    show (if b > (if b > (if a > a then a else a) then b else if a > a then a else a) then b else if b > (if a > a then a else a) then b else if a > a then a else a) = b by (repeat' split) <;> omega]
theorem thq_bd {n a b A C : Int} (hn : 0 < n) (hC : A ≤ C * n) (a0 : -A ≤ a) (a1 : a ≤ A) (b0 : -A ≤ b) (b1 : b ≤ A) : (-C ≤ (thq n a b).1 ∧ (thq n a b).1 ≤ C) ∧ (-C ≤ (thq n a b).2 ∧ (thq n a b).2 ≤ C) := by
  have u := ediv_bd' (x := a) (C := C) hn (by omega) (by omega)
  have v := ediv_bd' (x := -b) (C := C) hn (by omega) (by omega)
  exact ⟨u, by show -C ≤ -(_ / n) ∧ -(_ / n) ≤ C; omega⟩
theorem thq_le {n a b : Int} (hn : 0 < n) (h : a ≤ b) : (thq n a b).1 ≤ (thq n a b).2 := by
  have := oq_le (K := n) (a := a) (b := b) (c := 1) (d := 1) hn
  rw [oq_one h] at this; exact this
/-- the angle of a latitude, in parts of 2^28 -/
def lt0 (lat : Int) : Int × Int := (lat * 268435456 / 180000000, -(-(lat * 268435456) / 180000000))
def rad (lat : Int) : Int × Int := oq 100000000 (lt0 lat).1 (lt0 lat).2 314159265 314159266
def sqr (lat : Int) : Int × Int := oq 268435456 (rad lat).1 (rad lat).2 (rad lat).1 (rad lat).2
def tq (lat : Int) : Int × Int := thq 132 (sqr lat).1 (sqr lat).2
def uq (lat n : Int) : Int × Int := thq n (sqr lat).1 (sqr lat).2
def cosN : Nat → Int
  | 0 => 90 | 1 => 56 | 2 => 30 | 3 => 12 | _ => 2
def cs (lat : Int) : Nat → Int × Int
  | 0 => (268435456 - mx (tq lat).2 0, 268435456 - mn (tq lat).1 0)
  | k + 1 => (268435456 - (oq 268435456 (uq lat (cosN k)).1 (uq lat (cosN k)).2 (cs lat k).1 (cs lat k).2).2, 268435456 - (oq 268435456 (uq lat (cosN k)).1 (uq lat (cosN k)).2 (cs lat k).1 (cs lat k).2).1)
def pq (lat : Int) (k : Nat) : Int × Int := oq 268435456 (uq lat (cosN k)).1 (uq lat (cosN k)).2 (cs lat k).1 (cs lat k).2
theorem lt0_bd {lat : Int} (h0 : -80000000 ≤ lat) (h1 : lat ≤ 80000000) : ((-119304648 ≤ (lt0 lat).1 ∧ (lt0 lat).1 ≤ 119304648) ∧ (-119304648 ≤ (lt0 lat).2 ∧ (lt0 lat).2 ≤ 119304648)) ∧ (lt0 lat).1 ≤ (lt0 lat).2 := by
  unfold lt0; omega
theorem rad_bd {lat : Int} (h0 : -80000000 ≤ lat) (h1 : lat ≤ 80000000) : ((-374806608 ≤ (rad lat).1 ∧ (rad lat).1 ≤ 374806608) ∧ (-374806608 ≤ (rad lat).2 ∧ (rad lat).2 ≤ 374806608)) ∧ (rad lat).1 ≤ (rad lat).2 := by
  have b := lt0_bd h0 h1
  exact ⟨oq_bd (A := 119304648) (B := 314159266) (by decide) (by decide) b.1.1.1 b.1.1.2 b.1.2.1 b.1.2.2 (by decide) (by decide) (by decide) (by decide), oq_le (by decide)⟩
theorem sqr_bd {lat : Int} (h0 : -80000000 ≤ lat) (h1 : lat ≤ 80000000) : ((-536870912 ≤ (sqr lat).1 ∧ (sqr lat).1 ≤ 536870912) ∧ (-536870912 ≤ (sqr lat).2 ∧ (sqr lat).2 ≤ 536870912)) ∧ (sqr lat).1 ≤ (sqr lat).2 := by
  have b := rad_bd h0 h1
  exact ⟨oq_bd (A := 374806608) (B := 374806608) (by decide) (by decide) b.1.1.1 b.1.1.2 b.1.2.1 b.1.2.2 b.1.1.1 b.1.1.2 b.1.2.1 b.1.2.2, oq_le (by decide)⟩
theorem tq_bd {lat : Int} (h0 : -80000000 ≤ lat) (h1 : lat ≤ 80000000) : ((-4067205 ≤ (tq lat).1 ∧ (tq lat).1 ≤ 4067205) ∧ (-4067205 ≤ (tq lat).2 ∧ (tq lat).2 ≤ 4067205)) ∧ (tq lat).1 ≤ (tq lat).2 := by
  have b := sqr_bd h0 h1
  exact ⟨thq_bd (A := 536870912) (by decide) (by decide) b.1.1.1 b.1.1.2 b.1.2.1 b.1.2.2, thq_le (by decide) b.2⟩
theorem uq_bd {lat n C : Int} (h0 : -80000000 ≤ lat) (h1 : lat ≤ 80000000) (hn : 0 < n) (hC : 536870912 ≤ C * n) : ((-C ≤ (uq lat n).1 ∧ (uq lat n).1 ≤ C) ∧ (-C ≤ (uq lat n).2 ∧ (uq lat n).2 ≤ C)) ∧ (uq lat n).1 ≤ (uq lat n).2 := by
  have b := sqr_bd h0 h1
  exact ⟨thq_bd (A := 536870912) hn hC b.1.1.1 b.1.1.2 b.1.2.1 b.1.2.2, thq_le hn b.2⟩
def cosB : Nat → Int
  | 0 => 272502661 | 1 => 274491073 | 2 => 278238711 | 3 => 286984706 | 4 => 316266242 | _ => 584701700
def cosC : Nat → Int
  | 0 => 5965233 | 1 => 9586981 | 2 => 17895698 | 3 => 44739243 | _ => 268435457
theorem cs_step {lat : Int} (h0 : -80000000 ≤ lat) (h1 : lat ≤ 80000000) (k : Nat) {B C P : Int} (hn : 0 < cosN k) (hC : 536870912 ≤ C * cosN k) (hP : C * B ≤ P * 268435456) (hb : ((-B ≤ (cs lat k).1 ∧ (cs lat k).1 ≤ B) ∧ (-B ≤ (cs lat k).2 ∧ (cs lat k).2 ≤ B)) ∧ (cs lat k).1 ≤ (cs lat k).2) :
    (((-P ≤ (pq lat k).1 ∧ (pq lat k).1 ≤ P) ∧ (-P ≤ (pq lat k).2 ∧ (pq lat k).2 ≤ P)) ∧ (pq lat k).1 ≤ (pq lat k).2) ∧ ((cs lat (k + 1)).1 = 268435456 - (pq lat k).2 ∧ (cs lat (k + 1)).2 = 268435456 - (pq lat k).1) := by
  have u := uq_bd h0 h1 hn hC
  exact ⟨⟨oq_bd (A := C) (B := B) (by decide) hP u.1.1.1 u.1.1.2 u.1.2.1 u.1.2.2 hb.1.1.1 hb.1.1.2 hb.1.2.1 hb.1.2.2, oq_le (by decide)⟩, rfl, rfl⟩
theorem cs0_bd {lat : Int} (h0 : -80000000 ≤ lat) (h1 : lat ≤ 80000000) : ((-272502661 ≤ (cs lat 0).1 ∧ (cs lat 0).1 ≤ 272502661) ∧ (-272502661 ≤ (cs lat 0).2 ∧ (cs lat 0).2 ≤ 272502661)) ∧ (cs lat 0).1 ≤ (cs lat 0).2 := by
  have t := tq_bd h0 h1
  show ((_ ≤ 268435456 - mx (tq lat).2 0 ∧ 268435456 - mx (tq lat).2 0 ≤ _) ∧ (_ ≤ 268435456 - mn (tq lat).1 0 ∧ 268435456 - mn (tq lat).1 0 ≤ _)) ∧ 268435456 - mx (tq lat).2 0 ≤ 268435456 - mn (tq lat).1 0
  unfold mx mn; (repeat' split) <;> omega
theorem cs_bd {lat : Int} (h0 : -80000000 ≤ lat) (h1 : lat ≤ 80000000) : ∀ k : Nat, k ≤ 5 → ((-(cosB k) ≤ (cs lat k).1 ∧ (cs lat k).1 ≤ cosB k) ∧ (-(cosB k) ≤ (cs lat k).2 ∧ (cs lat k).2 ≤ cosB k)) ∧ (cs lat k).1 ≤ (cs lat k).2 := by
  have a0 := cs0_bd h0 h1
  have s0 : (((-_ ≤ (pq lat 0).1 ∧ (pq lat 0).1 ≤ _) ∧ (-_ ≤ (pq lat 0).2 ∧ (pq lat 0).2 ≤ _)) ∧ (pq lat 0).1 ≤ (pq lat 0).2) ∧ ((cs lat 1).1 = 268435456 - (pq lat 0).2 ∧ (cs lat 1).2 = 268435456 - (pq lat 0).1) := cs_step h0 h1 0 (B := 272502661) (C := 5965233) (P := 6055616) (by decide) (by decide) (by decide) a0
  have a1 : ((-274491073 ≤ (cs lat 1).1 ∧ (cs lat 1).1 ≤ 274491073) ∧ (-274491073 ≤ (cs lat 1).2 ∧ (cs lat 1).2 ≤ 274491073)) ∧ (cs lat 1).1 ≤ (cs lat 1).2 := by omega
  have s1 : (((-_ ≤ (pq lat 1).1 ∧ (pq lat 1).1 ≤ _) ∧ (-_ ≤ (pq lat 1).2 ∧ (pq lat 1).2 ≤ _)) ∧ (pq lat 1).1 ≤ (pq lat 1).2) ∧ ((cs lat 2).1 = 268435456 - (pq lat 1).2 ∧ (cs lat 2).2 = 268435456 - (pq lat 1).1) := cs_step h0 h1 1 (B := 274491073) (C := 9586981) (P := 9803254) (by decide) (by decide) (by decide) a1
  have a2 : ((-278238711 ≤ (cs lat 2).1 ∧ (cs lat 2).1 ≤ 278238711) ∧ (-278238711 ≤ (cs lat 2).2 ∧ (cs lat 2).2 ≤ 278238711)) ∧ (cs lat 2).1 ≤ (cs lat 2).2 := by omega
  have s2 : (((-_ ≤ (pq lat 2).1 ∧ (pq lat 2).1 ≤ _) ∧ (-_ ≤ (pq lat 2).2 ∧ (pq lat 2).2 ≤ _)) ∧ (pq lat 2).1 ≤ (pq lat 2).2) ∧ ((cs lat 3).1 = 268435456 - (pq lat 2).2 ∧ (cs lat 3).2 = 268435456 - (pq lat 2).1) := cs_step h0 h1 2 (B := 278238711) (C := 17895698) (P := 18549249) (by decide) (by decide) (by decide) a2
  have a3 : ((-286984706 ≤ (cs lat 3).1 ∧ (cs lat 3).1 ≤ 286984706) ∧ (-286984706 ≤ (cs lat 3).2 ∧ (cs lat 3).2 ≤ 286984706)) ∧ (cs lat 3).1 ≤ (cs lat 3).2 := by omega
  have s3 : (((-_ ≤ (pq lat 3).1 ∧ (pq lat 3).1 ≤ _) ∧ (-_ ≤ (pq lat 3).2 ∧ (pq lat 3).2 ≤ _)) ∧ (pq lat 3).1 ≤ (pq lat 3).2) ∧ ((cs lat 4).1 = 268435456 - (pq lat 3).2 ∧ (cs lat 4).2 = 268435456 - (pq lat 3).1) := cs_step h0 h1 3 (B := 286984706) (C := 44739243) (P := 47830786) (by decide) (by decide) (by decide) a3
  have a4 : ((-316266242 ≤ (cs lat 4).1 ∧ (cs lat 4).1 ≤ 316266242) ∧ (-316266242 ≤ (cs lat 4).2 ∧ (cs lat 4).2 ≤ 316266242)) ∧ (cs lat 4).1 ≤ (cs lat 4).2 := by omega
  have s4 : (((-_ ≤ (pq lat 4).1 ∧ (pq lat 4).1 ≤ _) ∧ (-_ ≤ (pq lat 4).2 ∧ (pq lat 4).2 ≤ _)) ∧ (pq lat 4).1 ≤ (pq lat 4).2) ∧ ((cs lat 5).1 = 268435456 - (pq lat 4).2 ∧ (cs lat 5).2 = 268435456 - (pq lat 4).1) := cs_step h0 h1 4 (B := 316266242) (C := 268435457) (P := 316266244) (by decide) (by decide) (by decide) a4
  have a5 : ((-584701700 ≤ (cs lat 5).1 ∧ (cs lat 5).1 ≤ 584701700) ∧ (-584701700 ≤ (cs lat 5).2 ∧ (cs lat 5).2 ≤ 584701700)) ∧ (cs lat 5).1 ≤ (cs lat 5).2 := by omega
  intro k hk
  match k, hk with
  | 0, _ => exact a0
  | 1, _ => exact a1
  | 2, _ => exact a2
  | 3, _ => exact a3
  | 4, _ => exact a4
  | 5, _ => exact a5
end Go.Proofs.YtcokagabchjilaaGreat.Am.Sp

set_option linter.unusedVariables false
set_option linter.unusedSimpArgs false
namespace Go.Proofs.YtcokagabchjilaaGreat.Am.Sp
/-! Projection: fits, rounding -/
theorem fxm_fit {D E a c : Int} (h0 : 0 < D * E) (h1 : D * E ≤ 9223372036854775807) (h2 : -9223372036854775807 ≤ a * c) (h3 : a * c ≤ 9223372036854775807) : fitq (fx D a * fx E c) = true := by
  rw [fx_mul]; exact fx_fit h0 h1 h2 h3
theorem oq_fit {D E K N a b c d : Int} (hD : 0 < D) (hE : 0 < E) (hK : 0 < K) (hN : 0 < N) (h : D * E = N * K) (hm : D * E ≤ 9223372036854775807)
    (p : -9223372036854775807 ≤ a * c ∧ a * c ≤ 9223372036854775807) (q : -9223372036854775807 ≤ a * d ∧ a * d ≤ 9223372036854775807) (r : -9223372036854775807 ≤ b * c ∧ b * c ≤ 9223372036854775807) (s : -9223372036854775807 ≤ b * d ∧ b * d ≤ 9223372036854775807) :
    fitq (rmin (rmin (rmin (fx D a * fx E c) (fx D a * fx E d)) (fx D b * fx E c)) (fx D b * fx E d) * ((N : Int) : Rat)) = true ∧
    fitq ((-(rmax (rmax (rmax (fx D a * fx E c) (fx D a * fx E d)) (fx D b * fx E c)) (fx D b * fx E d))) * ((N : Int) : Rat)) = true := by
  have hp : 0 < D * E := Int.mul_pos hD hE
  have n := n4_le (a * c) (a * d) (b * c) (b * d)
  have y := y4_ge (a * c) (a * d) (b * c) (b * d)
  have kN : K ≤ N * K := by
    have : 1 * K ≤ N * K := Int.mul_le_mul_of_nonneg_right (by omega) (by omega)
    omega
  simp only [fx_mul]
  rw [fx_m4 hp, fx_x4 hp, fx_neg, h, fx_times hK hN, fx_times hK hN]
  exact ⟨fx_fit hK (by omega) (by omega) (by omega), fx_fit hK (by omega) (by omega) (by omega)⟩
theorem fxy_fit {D N x : Int} (hD : 0 < D) (hm : D ≤ 9223372036854775807) (h0 : -9223372036854775807 ≤ x * N) (h1 : x * N ≤ 9223372036854775807) : fitq (fx D x * ((N : Int) : Rat)) = true ∧ fitq ((-(fx D x)) * ((N : Int) : Rat)) = true := by
  rw [fx_neg, fx_by, fx_by, Int.neg_mul]; exact ⟨fx_fit hD hm h0 h1, fx_fit hD hm (by omega) (by omega)⟩
theorem fx_sub1 (p : Int) : fx 1 1 + (-(fx 268435456 p)) = fx 268435456 (268435456 - p) := by
  rw [fx_scale (D := 1) (K := 268435456) (by decide) (by decide), show (268435456 : Int) * 1 = 268435456 by rfl, fx_neg, fx_add]; rfl
theorem fx_sub1_fit {p : Int} (h0 : -9000000000000000000 ≤ p) (h1 : p ≤ 9000000000000000000) : fitq (fx 1 1 + (-(fx 268435456 p))) = true := by
  rw [fx_sub1]; exact fx_fit (by decide) (by decide) (by omega) (by omega)
theorem mn_comm (a b : Int) : mn a b = mn b a := by unfold mn; split <;> split <;> omega
theorem mx_comm (a b : Int) : mx a b = mx b a := by unfold mx; split <;> split <;> omega
theorem fx_min0 (t : Int) : rmin (fx 1 0) (fx 268435456 t) = fx 268435456 (mn t 0) := by
  rw [fx_scale (D := 1) (K := 268435456) (by decide) (by decide), show (268435456 : Int) * 1 = 268435456 by rfl, fx_min (by decide), mn_comm]; rfl
theorem fx_max0 (t : Int) : rmax (fx 1 0) (fx 268435456 t) = fx 268435456 (mx t 0) := by
  rw [fx_scale (D := 1) (K := 268435456) (by decide) (by decide), show (268435456 : Int) * 1 = 268435456 by rfl, fx_max (by decide), mx_comm]; rfl
theorem mm0 (a b : Int) : (mn a 0 ≤ 0 ∧ (mn a 0 = a ∨ mn a 0 = 0)) ∧ (0 ≤ mx b 0 ∧ (mx b 0 = b ∨ mx b 0 = 0)) := by
  unfold mn mx; constructor <;> split <;> omega
theorem floor_leaf {n d : Int} (hd : 0 < d) : (Int.tdiv n d * d > n → Int.tdiv n d - 1 = n / d) ∧ (¬ Int.tdiv n d * d > n → Int.tdiv n d = n / d) := by
  have e1 := Int.ediv_mul_add_emod n d
  have e2 := Int.tdiv_mul_add_tmod n d
  have f1 := Int.emod_nonneg n (show d ≠ 0 by omega)
  have f2 := Int.emod_lt_of_pos n hd
  have g1 := tmod_lo (x := n) hd
  have g2 : Int.tmod n d < d := Int.tmod_lt_of_pos n hd
  generalize Int.tdiv n d = t at *
  generalize n / d = k at *
  have lem : ∀ x y : Int, x < y → x * d + d ≤ y * d := fun x y h => by
    have : (x + 1) * d ≤ y * d := Int.mul_le_mul_of_nonneg_right (by omega) (by omega)
    have e : (x + 1) * d = x * d + d := by grind
    omega
  constructor
  · intro h
    rcases Int.lt_trichotomy (t - 1) k with q | q | q
    · have := lem _ _ q; have e : (t - 1) * d = t * d - d := by grind
      rcases Int.lt_or_le t k with r | r
      · have := lem _ _ r; omega
      · have : t = k := by omega
        subst this; omega
    · exact q
    · have := lem _ _ q; have e : (t - 1) * d = t * d - d := by grind
      omega
  · intro h
    rcases Int.lt_trichotomy t k with q | q | q
    · have := lem _ _ q; omega
    · exact q
    · have := lem _ _ q; omega
theorem tdiv_bd2 {n d : Int} (hd : 0 < d) : (n - d < Int.tdiv n d * d ∧ Int.tdiv n d * d < n + d) := by
  have e2 := Int.tdiv_mul_add_tmod n d
  have g1 := tmod_lo (x := n) hd
  have g2 : Int.tmod n d < d := Int.tmod_lt_of_pos n hd
  omega
theorem rnd_fx {E n : Int} (hE : 0 < E) : rnd (fx (2 * E) n) = (n + E) / (2 * E) := by
  have h2 : 0 < 2 * E := by omega
  have r := rnd_num (fx (2 * E) n)
  have m := Int.ediv_mul_add_emod (n + E) (2 * E)
  have m0 := Int.emod_nonneg (n + E) (show 2 * E ≠ 0 by omega)
  have m1 := Int.emod_lt_of_pos (n + E) h2
  -- through the value: floor (q + 1/2)
  have key : rnd (fx (2 * E) n) = ((fx (2 * E) n) + fx (2 * E) E).floor := by
    have hq := mul_den (fx (2 * E) n)
    unfold rnd
    have em := Int.ediv_mul_add_emod (fx (2 * E) n).num (fx (2 * E) n).den
    have e0 := Int.emod_nonneg (fx (2 * E) n).num (b := ((fx (2 * E) n).den : Int)) (by have := (fx (2 * E) n).den_pos; omega)
    have e1 := Int.emod_lt_of_pos (fx (2 * E) n).num (b := ((fx (2 * E) n).den : Int)) (by have := (fx (2 * E) n).den_pos; omega)
    have ef : (fx (2 * E) n).floor = (fx (2 * E) n).num / (fx (2 * E) n).den := Rat.floor_def _
    have eh : fx (2 * E) E = 1 / 2 := by
      have := ne_rat (show E ≠ 0 by omega)
      unfold fx; rw [Rat.intCast_mul]; have : ((2 : Int) : Rat) = 2 := rfl; grind
    have hd : (0 : Rat) < (((fx (2 * E) n).den : Int) : Rat) := fx_pos (by have := (fx (2 * E) n).den_pos; omega)
    rw [eh, ef]
    generalize fx (2 * E) n = q at *
    symm
    have e2 : ((q.num : Int) : Rat) = ((q.num / q.den : Int) : Rat) * ((q.den : Int) : Rat) + ((q.num % q.den : Int) : Rat) := by rw [← Rat.intCast_mul, ← Rat.intCast_add, em]
    rw [e2] at hq
    have e0' : (0 : Rat) ≤ ((q.num % q.den : Int) : Rat) := by rw [show (0 : Rat) = ((0 : Int) : Rat) by rfl, Rat.intCast_le_intCast]; exact e0
    have e1' : ((q.num % q.den : Int) : Rat) < ((q.den : Int) : Rat) := Rat.intCast_lt_intCast.2 e1
    split
    · next h =>
      have h' : ((q.den : Int) : Rat) ≤ ((2 * (q.num % q.den) : Int) : Rat) := Rat.intCast_le_intCast.2 h
      rw [Rat.intCast_mul] at h'
      have t2 : ((2 : Int) : Rat) = 2 := rfl
      have t1 : ((1 : Int) : Rat) = 1 := rfl
      generalize ((q.num % q.den : Int) : Rat) = u at *
      generalize ((q.den : Int) : Rat) = d at *
      refine floor_is ?_ ?_
      · rw [Rat.intCast_add]
        generalize ((q.num / q.den : Int) : Rat) = k at *
        apply Rat.not_lt.1; intro c
        have := Rat.mul_pos (show 0 < k + 1 - (q + 1 / 2) by grind) hd
        grind
      · rw [Rat.intCast_add, Rat.intCast_add]
        generalize ((q.num / q.den : Int) : Rat) = k at *
        apply Rat.not_le.1; intro c
        have := Rat.mul_nonneg (show 0 ≤ (q + 1 / 2) - (k + 1 + 1) by grind) (Rat.le_of_lt hd)
        grind
    · next h =>
      have h' : ((2 * (q.num % q.den) : Int) : Rat) < ((q.den : Int) : Rat) := Rat.intCast_lt_intCast.2 (by omega)
      rw [Rat.intCast_mul] at h'
      have t2 : ((2 : Int) : Rat) = 2 := rfl
      have t1 : ((1 : Int) : Rat) = 1 := rfl
      generalize ((q.num % q.den : Int) : Rat) = u at *
      generalize ((q.den : Int) : Rat) = d at *
      refine floor_is ?_ ?_
      · generalize ((q.num / q.den : Int) : Rat) = k at *
        apply Rat.not_lt.1; intro c
        have := Rat.mul_pos (show 0 < k - (q + 1 / 2) by grind) hd
        grind
      · rw [Rat.intCast_add]
        generalize ((q.num / q.den : Int) : Rat) = k at *
        apply Rat.not_le.1; intro c
        have := Rat.mul_nonneg (show 0 ≤ (q + 1 / 2) - (k + 1) by grind) (Rat.le_of_lt hd)
        grind
  rw [key, fx_add, fx_floor h2]
theorem n4_perm (p q r s : Int) : n4 p q r s = n4 p r q s ∧ y4 p q r s = y4 p r q s := by
  have a := n4_le p q r s; have b := n4_le p r q s; have c := y4_ge p q r s; have d := y4_ge p r q s
  omega
theorem oq_comm (K a b c d : Int) : oq K a b c d = oq K c d a b := by
  unfold oq
  rw [(n4_perm (c * a) (c * b) (d * a) (d * b)).1, (n4_perm (c * a) (c * b) (d * a) (d * b)).2, Int.mul_comm c a, Int.mul_comm c b, Int.mul_comm d a, Int.mul_comm d b]
/-- the span across, in parts of 2^16 -/
def wy (slon sc lon : Int) : Int × Int := ((lon - slon) * sc * 4096 / 1000000, -(-((lon - slon) * sc * 4096) / 1000000))
def acr (slat slon sc lon : Int) : Int × Int := oq 16777216 (wy slon sc lon).1 (wy slon sc lon).2 (cs slat 5).1 (cs slat 5).2
theorem wy_bd {slon sc lon : Int} (h0 : -180000000 ≤ slon) (h1 : slon ≤ 180000000) (h2 : -180000000 ≤ lon) (h3 : lon ≤ 180000000) (s0 : 1 ≤ sc) (s1 : sc ≤ 10000) :
    (-3600000000000 ≤ (lon - slon) * sc ∧ (lon - slon) * sc ≤ 3600000000000) ∧ ((-14745600000 ≤ (wy slon sc lon).1 ∧ (wy slon sc lon).1 ≤ 14745600000) ∧ (-14745600000 ≤ (wy slon sc lon).2 ∧ (wy slon sc lon).2 ≤ 14745600000)) ∧ (wy slon sc lon).1 ≤ (wy slon sc lon).2 := by
  have m := mul_bd (a := lon - slon) (b := sc) (A := 360000000) (B := 10000) (by omega) (by omega) (by omega) (by omega)
  unfold wy
  generalize (lon - slon) * sc = x at *
  omega
theorem acr_bd {slat slon sc lon : Int} (l0 : -80000000 ≤ slat) (l1 : slat ≤ 80000000) (h0 : -180000000 ≤ slon) (h1 : slon ≤ 180000000) (h2 : -180000000 ≤ lon) (h3 : lon ≤ 180000000) (s0 : 1 ≤ sc) (s1 : sc ≤ 10000) :
    ((-520000000000 ≤ (acr slat slon sc lon).1 ∧ (acr slat slon sc lon).1 ≤ 520000000000) ∧ (-520000000000 ≤ (acr slat slon sc lon).2 ∧ (acr slat slon sc lon).2 ≤ 520000000000)) ∧ (acr slat slon sc lon).1 ≤ (acr slat slon sc lon).2 := by
  have w := wy_bd h0 h1 h2 h3 s0 s1
  have c : ((-584701700 ≤ (cs slat 5).1 ∧ (cs slat 5).1 ≤ 584701700) ∧ (-584701700 ≤ (cs slat 5).2 ∧ (cs slat 5).2 ≤ 584701700)) ∧ (cs slat 5).1 ≤ (cs slat 5).2 := cs_bd l0 l1 5 (by decide)
  exact ⟨oq_bd (A := 14745600000) (B := 584701700) (by decide) (by decide) w.2.1.1.1 w.2.1.1.2 w.2.1.2.1 w.2.1.2.2 c.1.1.1 c.1.1.2 c.1.2.1 c.1.2.2, oq_le (by decide)⟩
def ptx (slat slon sc lon : Int) : Int := ((acr slat slon sc lon).1 + (acr slat slon sc lon).2 + 65536) / 131072
def pty (slat sc lat : Int) : Int := ((lat - slat) * sc + (lat - slat) * sc + 1000000) / 2000000
theorem pty_up {slat sc lat : Int} : ((lat - slat) * sc * 2 - (lat - slat) * sc / 1000000 * 2000000 ≥ 1000000 → (lat - slat) * sc / 1000000 + 1 = pty slat sc lat) ∧ (¬ (lat - slat) * sc * 2 - (lat - slat) * sc / 1000000 * 2000000 ≥ 1000000 → (lat - slat) * sc / 1000000 = pty slat sc lat) := by
  unfold pty
  generalize (lat - slat) * sc = x
  omega
theorem v_bd {slat sc lat : Int} (l0 : -80000000 ≤ slat) (l1 : slat ≤ 80000000) (h0 : -80000000 ≤ lat) (h1 : lat ≤ 80000000) (s0 : 1 ≤ sc) (s1 : sc ≤ 10000) : -1600000000000 ≤ (lat - slat) * sc ∧ (lat - slat) * sc ≤ 1600000000000 := by
  have m := mul_bd (a := lat - slat) (b := sc) (A := 160000000) (B := 10000) (by omega) (by omega) (by omega) (by omega)
  omega
theorem mid_fx {D a b : Int} (hD : 0 < D) : rnd (fx (D * 2) ((a + b) * 1)) = (a + b + D) / (2 * D) := by
  rw [Int.mul_one, Int.mul_comm D 2, rnd_fx hD]
end Go.Proofs.YtcokagabchjilaaGreat.Am.Sp

set_option linter.unusedVariables false
set_option linter.unusedSimpArgs false
namespace Go.Proofs.YtcokagabchjilaaGreat.Am.Sp
/-! Cosines are above 0 and at most 1; back to longitudes -/
theorem ceil_le {x K C : Int} (hK : 0 < K) (h : x ≤ C * K) : -(-x / K) ≤ C := by
  have := Int.le_ediv_of_mul_le hK (show -C * K ≤ -x by rw [Int.neg_mul]; omega)
  omega
theorem floor_ge {x K C : Int} (hK : 0 < K) (h : C * K ≤ x) : C ≤ x / K := Int.le_ediv_of_mul_le hK h
theorem lt0_sign (lat : Int) : (0 ≤ lat → 0 ≤ (lt0 lat).1 ∧ 0 ≤ (lt0 lat).2) ∧ (lat ≤ 0 → (lt0 lat).1 ≤ 0 ∧ (lt0 lat).2 ≤ 0) := by unfold lt0; omega
theorem oq_nn {K a b c d : Int} (hK : 0 < K) (ha : 0 ≤ a) (hb : 0 ≤ b) (hc : 0 ≤ c) (hd : 0 ≤ d) : 0 ≤ (oq K a b c d).1 ∧ 0 ≤ (oq K a b c d).2 := by
  have h1 := n4_le (a * c) (a * d) (b * c) (b * d)
  have h2 := y4_ge (a * c) (a * d) (b * c) (b * d)
  have p1 := Int.mul_nonneg ha hc; have p2 := Int.mul_nonneg ha hd; have p3 := Int.mul_nonneg hb hc; have p4 := Int.mul_nonneg hb hd
  refine ⟨Int.ediv_nonneg (by omega) (by omega), ?_⟩
  show 0 ≤ -(-_ / K)
  have := Int.ediv_le_ediv hK (show -y4 (a * c) (a * d) (b * c) (b * d) ≤ 0 by omega)
  rw [Int.zero_ediv] at this; omega
theorem oq_np {K a b c d : Int} (hK : 0 < K) (ha : a ≤ 0) (hb : b ≤ 0) (hc : 0 ≤ c) (hd : 0 ≤ d) : (oq K a b c d).1 ≤ 0 ∧ (oq K a b c d).2 ≤ 0 := by
  have h1 := n4_le (a * c) (a * d) (b * c) (b * d)
  have h2 := y4_ge (a * c) (a * d) (b * c) (b * d)
  have p1 := Int.mul_nonpos_of_nonpos_of_nonneg ha hc; have p2 := Int.mul_nonpos_of_nonpos_of_nonneg ha hd; have p3 := Int.mul_nonpos_of_nonpos_of_nonneg hb hc; have p4 := Int.mul_nonpos_of_nonpos_of_nonneg hb hd
  refine ⟨?_, ?_⟩
  · have := Int.ediv_le_ediv hK (show n4 (a * c) (a * d) (b * c) (b * d) ≤ 0 by omega)
    rw [Int.zero_ediv] at this; exact this
  · show -(-_ / K) ≤ 0
    have := Int.ediv_nonneg (a := -y4 (a * c) (a * d) (b * c) (b * d)) (b := K) (by omega) (by omega); omega
theorem rad_sign (lat : Int) : (0 ≤ lat → 0 ≤ (rad lat).1 ∧ 0 ≤ (rad lat).2) ∧ (lat ≤ 0 → (rad lat).1 ≤ 0 ∧ (rad lat).2 ≤ 0) := by
  have s := lt0_sign lat
  exact ⟨fun h => oq_nn (by decide) (s.1 h).1 (s.1 h).2 (by decide) (by decide), fun h => oq_np (by decide) (s.2 h).1 (s.2 h).2 (by decide) (by decide)⟩
theorem oq_npp {K a b c d : Int} (hK : 0 < K) (ha : a ≤ 0) (hb : b ≤ 0) (hc : c ≤ 0) (hd : d ≤ 0) : 0 ≤ (oq K a b c d).1 ∧ 0 ≤ (oq K a b c d).2 := by
  have h := oq_nn (K := K) (a := -a) (b := -b) (c := -c) (d := -d) hK (by omega) (by omega) (by omega) (by omega)
  unfold oq at *
  rw [Int.neg_mul_neg, Int.neg_mul_neg, Int.neg_mul_neg, Int.neg_mul_neg] at h
  exact h
theorem sqr_pos {lat : Int} (h0 : -80000000 ≤ lat) (h1 : lat ≤ 80000000) : (0 ≤ (sqr lat).1 ∧ 0 ≤ (sqr lat).2) ∧ ((sqr lat).1 ≤ 523328757 ∧ (sqr lat).2 ≤ 523328757) := by
  have b := rad_bd h0 h1
  refine ⟨?_, ?_⟩
  · rcases Int.le_total 0 lat with k | k
    · have s := (rad_sign lat).1 k; exact oq_nn (by decide) s.1 s.2 s.1 s.2
    · have s := (rad_sign lat).2 k; exact oq_npp (by decide) s.1 s.2 s.1 s.2
  · have := oq_bd (K := 268435456) (A := 374806608) (B := 374806608) (C := 523328757) (by decide) (by decide) b.1.1.1 b.1.1.2 b.1.2.1 b.1.2.2 b.1.1.1 b.1.1.2 b.1.2.1 b.1.2.2
    exact ⟨this.1.2, this.2.2⟩
/-- at most one and above nothing -/
def Unit1 (L : Int) (s : Int × Int) : Prop := (L ≤ s.1 ∧ s.1 ≤ s.2) ∧ s.2 ≤ 268435456
theorem step_unit {L C : Int} {u s : Int × Int} (hL : 0 ≤ L) (hs : Unit1 L s) (u0 : 0 ≤ u.1) (u1 : u.1 ≤ u.2) (u2 : u.2 ≤ C) :
    0 ≤ (oq 268435456 u.1 u.2 s.1 s.2).1 ∧ (oq 268435456 u.1 u.2 s.1 s.2).2 ≤ C := by
  unfold Unit1 at hs
  refine ⟨(oq_nn (by decide) u0 (by omega) (by omega) (by omega)).1, ?_⟩
  have y := y4_ge (u.1 * s.1) (u.1 * s.2) (u.2 * s.1) (u.2 * s.2)
  refine ceil_le (by decide) ?_
  have m : ∀ a b : Int, 0 ≤ a → a ≤ C → 0 ≤ b → b ≤ 268435456 → a * b ≤ C * 268435456 := fun a b h1 h2 h3 h4 => Int.mul_le_mul h2 h4 h3 (by omega)
  have m1 := m u.1 s.1 (by omega) (by omega) (by omega) (by omega)
  have m2 := m u.1 s.2 (by omega) (by omega) (by omega) (by omega)
  have m3 := m u.2 s.1 (by omega) (by omega) (by omega) (by omega)
  have m4 := m u.2 s.2 (by omega) (by omega) (by omega) (by omega)
  show y4 _ _ _ _ ≤ _
  omega
theorem thq_nn {n a b C : Int} (hn : 0 < n) (h0 : 0 ≤ a) (h1 : a ≤ b) (h2 : b ≤ C * n) : (0 ≤ (thq n a b).1 ∧ (thq n a b).1 ≤ (thq n a b).2) ∧ (thq n a b).2 ≤ C :=
  ⟨⟨Int.ediv_nonneg h0 (by omega), thq_le hn h1⟩, ceil_le hn h2⟩
theorem cs_unit {lat : Int} (h0 : -80000000 ≤ lat) (h1 : lat ≤ 80000000) : ∀ k : Nat, k ≤ 5 → Unit1 6771076 (cs lat k) := by
  have q := sqr_pos h0 h1
  have qo := (sqr_bd h0 h1).2
  have t := thq_nn (n := 132) (C := 3964612) (by decide) q.1.1 qo (by omega)
  have a0 : Unit1 6771076 (cs lat 0) := by
    have t' : (0 ≤ (tq lat).1 ∧ (tq lat).1 ≤ (tq lat).2) ∧ (tq lat).2 ≤ 3964612 := t
    show (_ ≤ 268435456 - mx (tq lat).2 0 ∧ 268435456 - mx (tq lat).2 0 ≤ 268435456 - mn (tq lat).1 0) ∧ 268435456 - mn (tq lat).1 0 ≤ 268435456
    unfold mx mn; (repeat' split) <;> omega
  have st : ∀ k : Nat, ∀ C : Int, 0 < cosN k → 523328757 ≤ C * cosN k → C ≤ 261664380 → Unit1 6771076 (cs lat k) → Unit1 6771076 (cs lat (k + 1)) := by
    intro k C hn hC hC2 hs
    have u : (0 ≤ (uq lat (cosN k)).1 ∧ (uq lat (cosN k)).1 ≤ (uq lat (cosN k)).2) ∧ (uq lat (cosN k)).2 ≤ C := thq_nn hn q.1.1 qo (by omega)
    have p := step_unit (by decide) hs u.1.1 u.1.2 u.2
    have le : (pq lat k).1 ≤ (pq lat k).2 := oq_le (by decide)
    have p' : 0 ≤ (pq lat k).1 ∧ (pq lat k).2 ≤ C := p
    show (_ ≤ 268435456 - (pq lat k).2 ∧ 268435456 - (pq lat k).2 ≤ 268435456 - (pq lat k).1) ∧ 268435456 - (pq lat k).1 ≤ 268435456
    omega
  have a1 := st 0 5814764 (by decide) (by decide) (by decide) a0
  have a2 := st 1 9345157 (by decide) (by decide) (by decide) a1
  have a3 := st 2 17444292 (by decide) (by decide) (by decide) a2
  have a4 := st 3 43610730 (by decide) (by decide) (by decide) a3
  have a5 := st 4 261664379 (by decide) (by decide) (by decide) a4
  intro k hk
  match k, hk with
  | 0, _ => exact a0
  | 1, _ => exact a1
  | 2, _ => exact a2
  | 3, _ => exact a3
  | 4, _ => exact a4
  | 5, _ => exact a5
/-- quotients by the cosine, rounded -/
theorem fx_quo {c : Int} (hc : 0 < c) (w : Int) : fx 1 w / fx 268435456 c = fx c (w * 268435456) := by
  have := ne_rat (show c ≠ 0 by omega)
  unfold fx; rw [Rat.intCast_mul]
  have a : ((1 : Int) : Rat) = 1 := rfl
  have b : ((268435456 : Int) : Rat) ≠ 0 := ne_rat (by decide)
  rw [a]; grind
theorem floor_mono {a b : Rat} (h : a ≤ b) : a.floor ≤ b.floor := by
  have x := fl_le a
  have y := fl_lt b
  have : a.floor < b.floor + 1 := Rat.intCast_lt_intCast.1 (by rw [Rat.intCast_add]; have : ((1 : Int) : Rat) = 1 := rfl; grind)
  omega
theorem floor_min (a b : Rat) : (rmin a b).floor = mn a.floor b.floor := by
  unfold rmin mn
  by_cases h : b < a
  · rw [if_pos h]
    have := floor_mono (Rat.le_of_lt h)
    split <;> omega
  · rw [if_neg h]
    have := floor_mono (Rat.not_lt.1 h)
    split <;> omega
theorem rmax_neg (a b : Rat) : -(rmax a b) = rmin (-a) (-b) := by unfold rmax rmin; grind
theorem mn_neg (a b : Int) : -(mn a b) = mx (-a) (-b) := by unfold mn mx; split <;> split <;> omega
theorem floor_m4 (p q r s : Rat) : (rmin (rmin (rmin p q) r) s).floor = n4 p.floor q.floor r.floor s.floor := by rw [floor_min, floor_min, floor_min]; rfl
theorem floor_x4 (p q r s : Rat) : -(-(rmax (rmax (rmax p q) r) s)).floor = y4 (-(-p).floor) (-(-q).floor) (-(-r).floor) (-(-s).floor) := by
  rw [rmax_neg, rmax_neg, rmax_neg, floor_min, floor_min, floor_min, mn_neg, mn_neg, mn_neg]; rfl
/-- back to millionths of a degree: quotients of the way by the cosine -/
def bkL (c d l h : Int) : Int := n4 (l * 268435456 / c) (l * 268435456 / d) (h * 268435456 / c) (h * 268435456 / d)
def bkH (c d l h : Int) : Int := y4 (-(-(l * 268435456) / c)) (-(-(l * 268435456) / d)) (-(-(h * 268435456) / c)) (-(-(h * 268435456) / d))
theorem bk_oL {c d : Int} (hc : 0 < c) (hd : 0 < d) (l h : Int) :
    oL (rmin (rmin (rmin (fx 1 l / fx 268435456 c) (fx 1 l / fx 268435456 d)) (fx 1 h / fx 268435456 c)) (fx 1 h / fx 268435456 d)) 1 = fx 1 (bkL c d l h) ∧
    oH (rmax (rmax (rmax (fx 1 l / fx 268435456 c) (fx 1 l / fx 268435456 d)) (fx 1 h / fx 268435456 c)) (fx 1 h / fx 268435456 d)) 1 = fx 1 (bkH c d l h) := by
  rw [fx_quo hc, fx_quo hd, fx_quo hc, fx_quo hd]
  have t1 : ((1 : Int) : Rat) = 1 := rfl
  have m1 : ∀ q : Rat, q * ((1 : Int) : Rat) = q := fun q => by rw [t1]; grind
  unfold oL oH
  rw [m1, m1, floor_m4, floor_x4, fx_neg, fx_neg, fx_neg, fx_neg, fx_floor hc, fx_floor hd, fx_floor hc, fx_floor hd, fx_floor hc, fx_floor hd, fx_floor hc, fx_floor hd]
  exact ⟨rfl, rfl⟩
theorem quo_fit {w c : Int} (hc : 0 < c) (hm : c ≤ 9223372036854775807) (h0 : -9223372036854775807 ≤ w * 268435456) (h1 : w * 268435456 ≤ 9223372036854775807) : fitq (fx 1 w / fx 268435456 c) = true := by
  rw [fx_quo hc]; exact fx_fit hc hm h0 h1
theorem one_fit {q : Rat} (h : fitq q = true) : fitq (q * ((1 : Int) : Rat)) = true := by
  have t1 : ((1 : Int) : Rat) = 1 := rfl
  rw [t1, show q * 1 = q by grind]; exact h
theorem bk_bd {c l : Int} (hc : 6771076 ≤ c) (h0 : -1073741824 ≤ l) (h1 : l ≤ 1073741824) : -50000000000 ≤ l * 268435456 / c ∧ l * 268435456 / c ≤ 50000000000 := by
  refine ediv_bd' (by omega) ?_ ?_ <;> omega
theorem oL_fz {D N : Int} (hD : 0 < D) (x : Int) : (((fx D x * ((N : Int) : Rat)).floor : Int) : Rat) / ((N : Int) : Rat) = fx N (x * N / D) := oL_fy hD x
theorem oH_fz {D N : Int} (hD : 0 < D) (x : Int) : ((-((-(fx D x)) * ((N : Int) : Rat)).floor : Int) : Rat) / ((N : Int) : Rat) = fx N (-(-(x * N) / D)) := by
  rw [← Int.neg_mul]; exact oH_fy hD x
def bwl (px sc : Int) : Int := (px - 1) * 1000000 / sc
def bwh (px sc : Int) : Int := -(-((px + 1) * 1000000) / sc)
theorem bw_bd {px sc : Int} (h0 : -1048576 ≤ px) (h1 : px ≤ 1048576) (s0 : 1 ≤ sc) : (-1048577000000 ≤ bwl px sc ∧ bwl px sc ≤ 1048577000000) ∧ (-1048577000000 ≤ bwh px sc ∧ bwh px sc ≤ 1048577000000) := by
  have a := ediv_bd' (x := (px - 1) * 1000000) (K := sc) (C := 1048577000000) (by omega) (by omega) (by omega)
  have b := ediv_bd' (x := -((px + 1) * 1000000)) (K := sc) (C := 1048577000000) (by omega) (by omega) (by omega)
  exact ⟨a, by show _ ≤ -(_ / _) ∧ -(_ / _) ≤ _; omega⟩
theorem bw_le {px sc : Int} (s0 : 1 ≤ sc) : bwl px sc ≤ bwh px sc := by
  have a : (px - 1) * 1000000 / sc * sc ≤ (px - 1) * 1000000 := Int.ediv_mul_le _ (by omega)
  have b : -((px + 1) * 1000000) / sc * sc ≤ -((px + 1) * 1000000) := Int.ediv_mul_le _ (by omega)
  unfold bwl bwh
  generalize (px - 1) * 1000000 / sc = u at *
  generalize -((px + 1) * 1000000) / sc = v at *
  rcases Int.lt_or_le (-v) u with k | k
  · exfalso
    have : 0 ≤ (u + v) * sc := Int.mul_nonneg (by omega) (by omega)
    have e : (u + v) * sc = u * sc + v * sc := by grind
    omega
  · exact k
theorem fx_abs {D : Int} (h : 0 < D) (n : Int) : rabs (fx D n) = fx D (n.natAbs : Int) := by
  have z : fx D 0 = 0 := by unfold fx; rw [show ((0 : Int) : Rat) = 0 by rfl]; grind
  unfold rabs
  by_cases k : n < 0
  · rw [if_pos (by rw [← z]; exact (fx_lt h).2 k), fx_neg, show (n.natAbs : Int) = -n by omega]
  · rw [if_neg (by rw [← z]; exact fun q => k ((fx_lt h).1 q)), show (n.natAbs : Int) = n by omega]
theorem far_iff (n : Int) : ((1073741824 : Int) : Rat) < rabs (fx 1 n) ↔ (1073741824 < n ∨ n < -1073741824) := by
  rw [show ((1073741824 : Int) : Rat) = fx 1 1073741824 from by unfold fx; rw [show ((1 : Int) : Rat) = 1 by rfl]; grind, fx_abs (by decide), fx_lt (by decide)]
  omega
theorem fx_add1 {D : Int} (h : 0 < D) (a b : Int) : fx 1 a + fx D b = fx D (a * D + b) := by
  rw [fx_scale (D := 1) (K := D) (by decide) h, Int.mul_one, fx_add, Int.mul_comm D a]
theorem c_zero {a b : Int} (h : 0 < a) : inS (fx 268435456 a) (fx 268435456 b) ((0 : Int) : Rat) = false := by
  unfold inS
  rw [fx_int (D := 268435456) (by decide) 0, decide_eq_false (by rw [fx_le (by decide)]; omega)]; rfl
def n8 (a b c d e f g h : Int) : Int := mn (mn (mn (mn (mn (mn (mn a b) c) d) e) f) g) h
def y8 (a b c d e f g h : Int) : Int := mx (mx (mx (mx (mx (mx (mx a b) c) d) e) f) g) h
theorem n8_four {a b c d e f g h : Int} (h1 : a ≤ b) (h2 : c ≤ d) (h3 : e ≤ f) (h4 : g ≤ h) : n8 a b c d e f g h = n4 a c e g ∧ y8 a b c d e f g h = y4 b d f h := by
  have m : ∀ x y z : Int, y ≤ z → mn (mn x y) z = mn x y := fun x y z q => by unfold mn; (repeat' split) <;> omega
  have m0 : mn a b = a := by unfold mn; split <;> omega
  have k0 : mx a b = b := by unfold mx; split <;> omega
  have k : ∀ x y z : Int, y ≤ z → mx (mx x y) z = mx x z := fun x y z q => by unfold mx; (repeat' split) <;> omega
  unfold n8 y8 n4 y4
  rw [m0, m _ _ _ h2, m _ _ _ h3, m _ _ _ h4, k0, k _ _ _ h2, k _ _ _ h3, k _ _ _ h4]
  exact ⟨rfl, rfl⟩
theorem fc_le {x c : Int} (hc : 0 < c) : x / c ≤ -(-x / c) := by
  have a : x / c * c ≤ x := Int.ediv_mul_le _ (by omega)
  have b : -x / c * c ≤ -x := Int.ediv_mul_le _ (by omega)
  generalize x / c = u at *
  generalize -x / c = v at *
  rcases Int.lt_or_le (-v) u with k | k
  · exfalso
    have : 1 * c ≤ (u + v) * c := Int.mul_le_mul_of_nonneg_right (by omega) (by omega)
    have e : (u + v) * c = u * c + v * c := by grind
    omega
  · exact k
theorem bk_all {c d l h : Int} (hc : 0 < c) (hd : 0 < d) :
    n8 (l * 268435456 / c) (-(-(l * 268435456) / c)) (l * 268435456 / d) (-(-(l * 268435456) / d)) (h * 268435456 / c) (-(-(h * 268435456) / c)) (h * 268435456 / d) (-(-(h * 268435456) / d)) = bkL c d l h ∧
    y8 (l * 268435456 / c) (-(-(l * 268435456) / c)) (l * 268435456 / d) (-(-(l * 268435456) / d)) (h * 268435456 / c) (-(-(h * 268435456) / c)) (h * 268435456 / d) (-(-(h * 268435456) / d)) = bkH c d l h :=
  n8_four (fc_le hc) (fc_le hd) (fc_le hc) (fc_le hd)
theorem bkLH_bd {c d l h : Int} (hc : 6771076 ≤ c) (hd : 6771076 ≤ d) (l0 : -1073741824 ≤ l) (l1 : l ≤ 1073741824) (h0 : -1073741824 ≤ h) (h1 : h ≤ 1073741824) :
    (-50000000000 ≤ bkL c d l h ∧ bkL c d l h ≤ 50000000000) ∧ (-50000000000 ≤ bkH c d l h ∧ bkH c d l h ≤ 50000000000) := by
  have a1 := bk_bd hc l0 l1; have a2 := bk_bd hd l0 l1; have a3 := bk_bd hc h0 h1; have a4 := bk_bd hd h0 h1
  have b1 := bk_bd hc (l := -l) (by omega) (by omega); have b2 := bk_bd hd (l := -l) (by omega) (by omega); have b3 := bk_bd hc (l := -h) (by omega) (by omega); have b4 := bk_bd hd (l := -h) (by omega) (by omega)
  rw [Int.neg_mul] at b1 b2 b3 b4
  have n := n4_le (l * 268435456 / c) (l * 268435456 / d) (h * 268435456 / c) (h * 268435456 / d)
  have y := y4_ge (-(-(l * 268435456) / c)) (-(-(l * 268435456) / d)) (-(-(h * 268435456) / c)) (-(-(h * 268435456) / d))
  unfold bkL bkH
  constructor <;> omega
theorem bkLH_le {c d l h : Int} (hc : 0 < c) (hd : 0 < d) : bkL c d l h ≤ bkH c d l h := by
  have n := n4_le (l * 268435456 / c) (l * 268435456 / d) (h * 268435456 / c) (h * 268435456 / d)
  have y := y4_ge (-(-(l * 268435456) / c)) (-(-(l * 268435456) / d)) (-(-(h * 268435456) / c)) (-(-(h * 268435456) / d))
  have := fc_le (x := l * 268435456) hc
  unfold bkL bkH; omega
end Go.Proofs.YtcokagabchjilaaGreat.Am.Sp

