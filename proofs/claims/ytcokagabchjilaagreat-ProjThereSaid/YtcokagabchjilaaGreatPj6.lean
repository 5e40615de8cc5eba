import Derived.Test.YtcokagabchjilaaGreatPj3
set_option linter.unusedVariables false
set_option linter.unusedSimpArgs false
namespace Go.Proofs.YtcokagabchjilaaGreat.Am.Sp
/-! Spans of cosines: width, what they hold -/
/-- the width of a product -/
theorem spread {a b c d W D A V : Int} (ab : a ≤ b) (cd : c ≤ d) (w : b - a ≤ W) (v : d - c ≤ V) (hc : 0 ≤ c) (hd : d ≤ D) (a0 : -A ≤ a) (a1 : b ≤ A) :
    y4 (a * c) (a * d) (b * c) (b * d) - n4 (a * c) (a * d) (b * c) (b * d) ≤ W * D + A * V := by
  have y := y4_ge (a * c) (a * d) (b * c) (b * d)
  have n := n4_le (a * c) (a * d) (b * c) (b * d)
  have p1 : (b - a) * c ≤ W * D := Int.mul_le_mul w (by omega) hc (by omega)
  have p2 : (b - a) * d ≤ W * D := Int.mul_le_mul w hd (by omega) (by omega)
  have p0 : 0 ≤ (b - a) * c := Int.mul_nonneg (by omega) hc
  have p00 : 0 ≤ (b - a) * d := Int.mul_nonneg (by omega) (by omega)
  have q : ∀ x : Int, -A ≤ x → x ≤ A → -(A * V) ≤ x * (d - c) ∧ x * (d - c) ≤ A * V := fun x h1 h2 => mul_bd h1 h2 (by omega) (by omega)
  have q1 := q a a0 (by omega)
  have q2 := q b (by omega) a1
  have e1 : (b - a) * c = b * c - a * c := by grind
  have e2 : (b - a) * d = b * d - a * d := by grind
  have e3 : a * (d - c) = a * d - a * c := by grind
  have e4 : b * (d - c) = b * d - b * c := by grind
  rw [e1] at p1 p0; rw [e2] at p2 p00; rw [e3] at q1; rw [e4] at q2
  generalize W * D = X at *
  generalize A * V = Y at *
  have t0 : 0 ≤ Y := by omega
  obtain ⟨_, y⟩ := y
  obtain ⟨_, n⟩ := n
  generalize y4 (a * c) (a * d) (b * c) (b * d) = ymax at *
  generalize n4 (a * c) (a * d) (b * c) (b * d) = nmin at *
  rcases y with y | y | y | y <;> rcases n with n | n | n | n <;> omega
theorem ceil_floor {x y K : Int} (hK : 0 < K) : (-(-y / K) - x / K) * K ≤ y - x + 2 * (K - 1) := by
  have e1 := Int.ediv_mul_add_emod x K
  have e2 := Int.ediv_mul_add_emod (-y) K
  have f1 := Int.emod_lt_of_pos x hK
  have f2 := Int.emod_lt_of_pos (-y) hK
  have e : (-(-y / K) - x / K) * K = -(-y / K * K) - x / K * K := by grind
  omega
theorem width_of {z K C X : Int} (hK : 0 < K) (h : z * K ≤ X) (hC : X < (C + 1) * K) : z ≤ C := by
  rcases Int.lt_or_le C z with k | k
  · have : (C + 1) * K ≤ z * K := Int.mul_le_mul_of_nonneg_right (by omega) (by omega)
    omega
  · exact k
theorem oq_width {K a b c d W D A V C : Int} (hK : 0 < K) (ab : a ≤ b) (cd : c ≤ d) (w : b - a ≤ W) (v : d - c ≤ V) (hc : 0 ≤ c) (hd : d ≤ D) (a0 : -A ≤ a) (a1 : b ≤ A) (hC : W * D + A * V + 2 * (K - 1) < (C + 1) * K) :
    (oq K a b c d).2 - (oq K a b c d).1 ≤ C := by
  have s := spread ab cd w v hc hd a0 a1
  have f := ceil_floor (x := n4 (a * c) (a * d) (b * c) (b * d)) (y := y4 (a * c) (a * d) (b * c) (b * d)) hK
  exact width_of hK f (by omega)
theorem thq_width {n a b W C : Int} (hn : 0 < n) (w : b - a ≤ W) (hC : W + 2 * (n - 1) < (C + 1) * n) : (thq n a b).2 - (thq n a b).1 ≤ C := by
  have f := ceil_floor (x := a) (y := b) hn
  exact width_of hn f (by omega)
theorem n4_neg (p q r s : Int) : n4 (-p) (-q) (-r) (-s) = -(y4 p q r s) ∧ y4 (-p) (-q) (-r) (-s) = -(n4 p q r s) := by
  have a := n4_le (-p) (-q) (-r) (-s); have b := y4_ge p q r s; have c := y4_ge (-p) (-q) (-r) (-s); have d := n4_le p q r s
  omega
theorem n4_rev (p q r s : Int) : n4 p q r s = n4 r s p q ∧ y4 p q r s = y4 r s p q := by
  have a := n4_le p q r s; have b := y4_ge p q r s; have c := y4_ge r s p q; have d := n4_le r s p q
  omega
theorem oq_flip (K a b c d : Int) : oq K (-b) (-a) c d = (-(oq K a b c d).2, -(oq K a b c d).1) := by
  unfold oq
  have h := n4_neg (b * c) (b * d) (a * c) (a * d)
  have r := n4_rev (b * c) (b * d) (a * c) (a * d)
  rw [Int.neg_mul, Int.neg_mul, Int.neg_mul, Int.neg_mul, h.1, h.2, r.1, r.2]
  simp
theorem oq_both (K a b : Int) : oq K (-b) (-a) (-b) (-a) = oq K a b a b := by
  unfold oq
  rw [Int.neg_mul_neg, Int.neg_mul_neg, Int.neg_mul_neg, Int.neg_mul_neg]
  have p : n4 (b * b) (b * a) (a * b) (a * a) = n4 (a * a) (a * b) (b * a) (b * b) ∧ y4 (b * b) (b * a) (a * b) (a * a) = y4 (a * a) (a * b) (b * a) (b * b) := by
    have x := n4_le (b * b) (b * a) (a * b) (a * a); have y := y4_ge (b * b) (b * a) (a * b) (a * a); have z := n4_le (a * a) (a * b) (b * a) (b * b); have w := y4_ge (a * a) (a * b) (b * a) (b * b)
    omega
  rw [p.1, p.2]
theorem rad_flip (lat : Int) : rad (-lat) = (-(rad lat).2, -(rad lat).1) := by
  have e : lt0 (-lat) = (-(lt0 lat).2, -(lt0 lat).1) := by unfold lt0; rw [Int.neg_mul, Int.neg_neg]; simp
  unfold rad
  rw [e]
  exact oq_flip _ _ _ _ _
theorem sqr_flip (lat : Int) : sqr (-lat) = sqr lat := by
  unfold sqr
  rw [rad_flip]
  exact oq_both _ _ _
theorem cs_flip (lat : Int) : ∀ k, cs (-lat) k = cs lat k := by
  intro k
  induction k with
  | zero => unfold cs tq; rw [sqr_flip]
  | succ k ih => unfold cs uq; rw [sqr_flip, ih]
theorem lt0_w (lat : Int) : (lt0 lat).2 - (lt0 lat).1 ≤ 1 := by unfold lt0; omega
theorem cs_width_pos {lat : Int} (h0 : 0 ≤ lat) (h1 : lat ≤ 80000000) : (cs lat 5).2 - (cs lat 5).1 ≤ 48 := by
  have lb := lt0_bd (lat := lat) (by omega) h1
  have lw := lt0_w lat
  have rb := rad_bd (lat := lat) (by omega) h1
  have rs := (rad_sign lat).1 h0
  have rw_ : (rad lat).2 - (rad lat).1 ≤ 6 := oq_width (K := 100000000) (W := 1) (D := 314159266) (A := 119304648) (V := 1) (by decide) lb.2 (by decide) lw (by decide) (by decide) (by decide) (by omega) (by omega) (by decide)
  have qb := sqr_pos (lat := lat) (by omega) h1
  have qo := (sqr_bd (lat := lat) (by omega) h1).2
  have qw : (sqr lat).2 - (sqr lat).1 ≤ 18 := oq_width (K := 268435456) (W := 6) (D := 374806608) (A := 374806608) (V := 6) (by decide) rb.2 rb.2 rw_ rw_ rs.1 (by omega) (by omega) (by omega) (by decide)
  have cu := cs_unit (lat := lat) (by omega) h1
  have w0 : (cs lat 0).2 - (cs lat 0).1 ≤ 3964612 := by
    have t := thq_nn (n := 132) (C := 3964612) (by decide) qb.1.1 qo (by omega)
    have t' : (0 ≤ (tq lat).1 ∧ (tq lat).1 ≤ (tq lat).2) ∧ (tq lat).2 ≤ 3964612 := t
    show 268435456 - mn (tq lat).1 0 - (268435456 - mx (tq lat).2 0) ≤ _
    unfold mx mn; (repeat' split) <;> omega
  have st : ∀ (k : Nat) (u U w w' : Int), k ≤ 4 → 0 < cosN k → 18 + 2 * (cosN k - 1) < (u + 1) * cosN k → 523328757 ≤ U * cosN k → u * 268435456 + U * w + 2 * (268435456 - 1) < (w' + 1) * 268435456 → (cs lat k).2 - (cs lat k).1 ≤ w → (cs lat (k + 1)).2 - (cs lat (k + 1)).1 ≤ w' := by
    intro k u U w w' hk hn hu hU hw h
    have uw : (uq lat (cosN k)).2 - (uq lat (cosN k)).1 ≤ u := thq_width hn qw hu
    have un : (0 ≤ (uq lat (cosN k)).1 ∧ (uq lat (cosN k)).1 ≤ (uq lat (cosN k)).2) ∧ (uq lat (cosN k)).2 ≤ U := thq_nn hn qb.1.1 qo (by omega)
    have c := cu k (by omega)
    unfold Unit1 at c
    have := oq_width (K := 268435456) (W := u) (D := 268435456) (A := U) (V := w) (C := w') (by decide) un.1.2 c.1.2 uw h (by omega) c.2 (by omega) un.2 hw
    show 268435456 - (oq 268435456 (uq lat (cosN k)).1 (uq lat (cosN k)).2 (cs lat k).1 (cs lat k).2).1 - (268435456 - (oq 268435456 (uq lat (cosN k)).1 (uq lat (cosN k)).2 (cs lat k).1 (cs lat k).2).2) ≤ w'
    omega
  have w1 := st 0 2 5814765 3964612 85884 (by decide) (by decide) (by decide) (by decide) (by decide) w0
  have w2 := st 1 2 9345158 85884 2993 (by decide) (by decide) (by decide) (by decide) (by decide) w1
  have w3 := st 2 2 17444293 2993 198 (by decide) (by decide) (by decide) (by decide) (by decide) w2
  have w4 := st 3 3 43610731 198 37 (by decide) (by decide) (by decide) (by decide) (by decide) w3
  exact st 4 10 261664380 37 48 (by decide) (by decide) (by decide) (by decide) (by decide) w4
theorem cs_width {lat : Int} (h0 : -80000000 ≤ lat) (h1 : lat ≤ 80000000) : (cs lat 5).2 - (cs lat 5).1 ≤ 48 := by
  rcases Int.le_total 0 lat with k | k
  · exact cs_width_pos k h1
  · have := cs_width_pos (lat := -lat) (by omega) (by omega)
    rw [cs_flip] at this; exact this
/-! ### places near the origin -/
theorem acr_near {slat slon sc lon : Int} (l0 : -80000000 ≤ slat) (l1 : slat ≤ 80000000) (h0 : -1000000 ≤ lon - slon) (h1 : lon - slon ≤ 1000000) (s0 : 1 ≤ sc) (s1 : sc ≤ 10000) :
    ((acr slat slon sc lon).2 - (acr slat slon sc lon).1 ≤ 200 ∧ (acr slat slon sc lon).1 ≤ (acr slat slon sc lon).2) ∧ (-(sc * 65536 + 17) ≤ (acr slat slon sc lon).1 ∧ (acr slat slon sc lon).2 ≤ sc * 65536 + 17) := by
  have m := mul_bd (a := lon - slon) (b := sc) (A := 1000000) (B := sc) h0 h1 (by omega) (by omega)
  have cw := cs_width l0 l1
  have cu := cs_unit l0 l1 5 (by decide)
  unfold Unit1 at cu
  have wb : ((-(sc * 4096 + 1) ≤ (wy slon sc lon).1 ∧ (wy slon sc lon).2 ≤ sc * 4096 + 1) ∧ (wy slon sc lon).1 ≤ (wy slon sc lon).2) ∧ (wy slon sc lon).2 - (wy slon sc lon).1 ≤ 1 := by
    unfold wy
    generalize (lon - slon) * sc = x at *
    omega
  refine ⟨⟨?_, oq_le (by decide)⟩, ?_⟩
  · exact oq_width (K := 16777216) (W := 1) (D := 268435456) (A := 40960001) (V := 48) (by decide) wb.1.2 cu.1.2 wb.2 cw (by omega) cu.2 (by omega) (by omega) (by decide)
  · have b := oq_bd (K := 16777216) (a := (wy slon sc lon).1) (b := (wy slon sc lon).2) (c := (cs slat 5).1) (d := (cs slat 5).2) (A := sc * 4096 + 1) (B := 268435456) (C := sc * 65536 + 16) (by decide) (by omega) wb.1.1.1 (by omega) (by omega) wb.1.1.2 (by omega) (by omega) (by omega) cu.2
    have b' : (-(sc * 65536 + 16) ≤ (acr slat slon sc lon).1 ∧ (acr slat slon sc lon).1 ≤ sc * 65536 + 16) ∧ (-(sc * 65536 + 16) ≤ (acr slat slon sc lon).2 ∧ (acr slat slon sc lon).2 ≤ sc * 65536 + 16) := b
    omega
theorem pt_near {slat slon sc lat lon : Int} (l0 : -80000000 ≤ slat) (l1 : slat ≤ 80000000) (h0 : -1000000 ≤ lon - slon) (h1 : lon - slon ≤ 1000000) (g0 : -1000000 ≤ lat - slat) (g1 : lat - slat ≤ 1000000) (s0 : 1 ≤ sc) (s1 : sc ≤ 10000) :
    ((-(sc + 1) ≤ ptx slat slon sc lon ∧ ptx slat slon sc lon ≤ sc + 1) ∧ (-(sc + 1) ≤ pty slat sc lat ∧ pty slat sc lat ≤ sc + 1)) ∧
    (((ptx slat slon sc lon - 1) * 65536 < (acr slat slon sc lon).1 ∧ (acr slat slon sc lon).2 < (ptx slat slon sc lon + 1) * 65536) ∧
    ((pty slat sc lat - 1) * 1000000 < (lat - slat) * sc ∧ (lat - slat) * sc < (pty slat sc lat + 1) * 1000000)) := by
  have a := acr_near l0 l1 h0 h1 s0 s1
  have m := mul_bd (a := lat - slat) (b := sc) (A := 1000000) (B := sc) g0 g1 (by omega) (by omega)
  unfold ptx pty
  generalize (lat - slat) * sc = y at *
  omega
theorem pt_okb {x y sc : Int} (s1 : sc ≤ 10000) (hx : -(sc + 1) ≤ x ∧ x ≤ sc + 1) (hy : -(sc + 1) ≤ y ∧ y ≤ sc + 1) : (x == lim 1048576 x && (y == lim 1048576 y && true)) = true := by
  rw [lim_id (by omega) (by omega), lim_id (by omega) (by omega)]; simp
theorem bw_near {px sc : Int} (s0 : 1 ≤ sc) (hx : -(sc + 1) ≤ px ∧ px ≤ sc + 1) : (-4000000 ≤ bwl px sc ∧ bwl px sc ≤ 4000000) ∧ (-4000000 ≤ bwh px sc ∧ bwh px sc ≤ 4000000) := by
  have a := ediv_bd' (x := (px - 1) * 1000000) (K := sc) (C := 4000000) (by omega) (by omega) (by omega)
  have b := ediv_bd' (x := -((px + 1) * 1000000)) (K := sc) (C := 4000000) (by omega) (by omega) (by omega)
  exact ⟨a, by show _ ≤ -(_ / _) ∧ -(_ / _) ≤ _; omega⟩
theorem bk_holds {slat slon sc lat lon : Int} (l0 : -80000000 ≤ slat) (l1 : slat ≤ 80000000) (h0 : -1000000 ≤ lon - slon) (h1 : lon - slon ≤ 1000000) (g0 : -1000000 ≤ lat - slat) (g1 : lat - slat ≤ 1000000) (s0 : 1 ≤ sc) (s1 : sc ≤ 10000) :
    bkL (cs slat 5).1 (cs slat 5).2 (bwl (ptx slat slon sc lon) sc) (bwh (ptx slat slon sc lon) sc) ≤ lon - slon ∧ lon - slon ≤ bkH (cs slat 5).1 (cs slat 5).2 (bwl (ptx slat slon sc lon) sc) (bwh (ptx slat slon sc lon) sc) := by
  have p := (pt_near (lat := lat) l0 l1 h0 h1 g0 g1 s0 s1).2.1
  have cu := cs_unit l0 l1 5 (by decide)
  unfold Unit1 at cu
  have hc : 0 < (cs slat 5).1 := by omega
  have n := n4_le ((wy slon sc lon).1 * (cs slat 5).1) ((wy slon sc lon).1 * (cs slat 5).2) ((wy slon sc lon).2 * (cs slat 5).1) ((wy slon sc lon).2 * (cs slat 5).2)
  have y := y4_ge ((wy slon sc lon).1 * (cs slat 5).1) ((wy slon sc lon).1 * (cs slat 5).2) ((wy slon sc lon).2 * (cs slat 5).1) ((wy slon sc lon).2 * (cs slat 5).2)
  have a1 : (acr slat slon sc lon).1 * 16777216 ≤ (wy slon sc lon).1 * (cs slat 5).1 := by
    have : (acr slat slon sc lon).1 * 16777216 ≤ n4 _ _ _ _ := Int.ediv_mul_le (n4 ((wy slon sc lon).1 * (cs slat 5).1) ((wy slon sc lon).1 * (cs slat 5).2) ((wy slon sc lon).2 * (cs slat 5).1) ((wy slon sc lon).2 * (cs slat 5).2)) (show (16777216 : Int) ≠ 0 by decide)
    omega
  have a2 : (wy slon sc lon).2 * (cs slat 5).1 ≤ (acr slat slon sc lon).2 * 16777216 := by
    have h : -(y4 ((wy slon sc lon).1 * (cs slat 5).1) ((wy slon sc lon).1 * (cs slat 5).2) ((wy slon sc lon).2 * (cs slat 5).1) ((wy slon sc lon).2 * (cs slat 5).2)) / 16777216 * 16777216 ≤ -(y4 ((wy slon sc lon).1 * (cs slat 5).1) ((wy slon sc lon).1 * (cs slat 5).2) ((wy slon sc lon).2 * (cs slat 5).1) ((wy slon sc lon).2 * (cs slat 5).2)) := Int.ediv_mul_le _ (show (16777216 : Int) ≠ 0 by decide)
    have e : (acr slat slon sc lon).2 = -(-(y4 ((wy slon sc lon).1 * (cs slat 5).1) ((wy slon sc lon).1 * (cs slat 5).2) ((wy slon sc lon).2 * (cs slat 5).1) ((wy slon sc lon).2 * (cs slat 5).2)) / 16777216) := rfl
    rw [e]; omega
  have w1 : (wy slon sc lon).1 * 1000000 ≤ (lon - slon) * sc * 4096 := Int.ediv_mul_le _ (by decide)
  have w2 : (lon - slon) * sc * 4096 ≤ (wy slon sc lon).2 * 1000000 := by
    have h : -((lon - slon) * sc * 4096) / 1000000 * 1000000 ≤ -((lon - slon) * sc * 4096) := Int.ediv_mul_le _ (by decide)
    have e : (wy slon sc lon).2 = -(-((lon - slon) * sc * 4096) / 1000000) := rfl
    rw [e]; omega
  have m1 : (wy slon sc lon).1 * 1000000 * (cs slat 5).1 ≤ (lon - slon) * sc * 4096 * (cs slat 5).1 := Int.mul_le_mul_of_nonneg_right w1 (by omega)
  have m2 : (lon - slon) * sc * 4096 * (cs slat 5).1 ≤ (wy slon sc lon).2 * 1000000 * (cs slat 5).1 := Int.mul_le_mul_of_nonneg_right w2 (by omega)
  have e1 : (wy slon sc lon).1 * 1000000 * (cs slat 5).1 = 1000000 * ((wy slon sc lon).1 * (cs slat 5).1) := by grind
  have e2 : (wy slon sc lon).2 * 1000000 * (cs slat 5).1 = 1000000 * ((wy slon sc lon).2 * (cs slat 5).1) := by grind
  have e3 : (lon - slon) * sc * 4096 * (cs slat 5).1 = 4096 * ((lon - slon) * (cs slat 5).1 * sc) := by grind
  have b1 : bwl (ptx slat slon sc lon) sc * sc ≤ (ptx slat slon sc lon - 1) * 1000000 := Int.ediv_mul_le _ (by omega)
  have b2 : (ptx slat slon sc lon + 1) * 1000000 ≤ bwh (ptx slat slon sc lon) sc * sc := by
    have h : -((ptx slat slon sc lon + 1) * 1000000) / sc * sc ≤ -((ptx slat slon sc lon + 1) * 1000000) := Int.ediv_mul_le _ (by omega)
    have e : bwh (ptx slat slon sc lon) sc = -(-((ptx slat slon sc lon + 1) * 1000000) / sc) := rfl
    rw [e, Int.neg_mul]; omega
  have k1 : bwl (ptx slat slon sc lon) sc * 268435456 * sc ≤ (lon - slon) * (cs slat 5).1 * sc := by
    have : bwl (ptx slat slon sc lon) sc * 268435456 * sc = 268435456 * (bwl (ptx slat slon sc lon) sc * sc) := by grind
    omega
  have k2 : (lon - slon) * (cs slat 5).1 * sc ≤ bwh (ptx slat slon sc lon) sc * 268435456 * sc := by
    have : bwh (ptx slat slon sc lon) sc * 268435456 * sc = 268435456 * (bwh (ptx slat slon sc lon) sc * sc) := by grind
    omega
  have j1 := Int.le_of_mul_le_mul_right k1 (by omega)
  have j2 := Int.le_of_mul_le_mul_right k2 (by omega)
  have n' := n4_le (bwl (ptx slat slon sc lon) sc * 268435456 / (cs slat 5).1) (bwl (ptx slat slon sc lon) sc * 268435456 / (cs slat 5).2) (bwh (ptx slat slon sc lon) sc * 268435456 / (cs slat 5).1) (bwh (ptx slat slon sc lon) sc * 268435456 / (cs slat 5).2)
  have y' := y4_ge (-(-(bwl (ptx slat slon sc lon) sc * 268435456) / (cs slat 5).1)) (-(-(bwl (ptx slat slon sc lon) sc * 268435456) / (cs slat 5).2)) (-(-(bwh (ptx slat slon sc lon) sc * 268435456) / (cs slat 5).1)) (-(-(bwh (ptx slat slon sc lon) sc * 268435456) / (cs slat 5).2))
  constructor
  · have : bwl (ptx slat slon sc lon) sc * 268435456 / (cs slat 5).1 ≤ lon - slon := by
      have := Int.ediv_le_ediv hc j1
      rw [Int.mul_ediv_cancel _ (by omega)] at this; exact this
    unfold bkL; omega
  · have : lon - slon ≤ -(-(bwh (ptx slat slon sc lon) sc * 268435456) / (cs slat 5).1) := by
      have := Int.ediv_le_ediv hc (show -(bwh (ptx slat slon sc lon) sc * 268435456) ≤ -(lon - slon) * (cs slat 5).1 by rw [Int.neg_mul]; omega)
      rw [Int.mul_ediv_cancel _ (by omega)] at this; omega
    unfold bkH; omega
end Go.Proofs.YtcokagabchjilaaGreat.Am.Sp

set_option linter.unusedVariables false
set_option linter.unusedSimpArgs false
namespace Go.Proofs.YtcokagabchjilaaGreat.Am.Sp
/-! Spans of cosines hold a polynomial of the square of the angle -/
theorem in_le {l h a : Rat} : inS l h a = true ↔ l ≤ a ∧ a ≤ h := in_iff
theorem oq_in {D E K a b c d : Int} {u v : Rat} (hD : 0 < D) (hE : 0 < E) (hK : 0 < K) (h : D * E = 268435456 * K) (hu : inS (fx D a) (fx D b) u = true) (hv : inS (fx E c) (fx E d) v = true) :
    inS (fx 268435456 (oq K a b c d).1) (fx 268435456 (oq K a b c d).2) (u * v) = true := by
  have o := out_in (n := 268435456) (by decide) (mul_in hu hv)
  have e := oq_fx hD hE hK (N := 268435456) (by decide) h a b c d
  rw [e.1, e.2] at o; exact o
/-- the angle with the lesser bound of pi -/
def ang (lat : Int) : Rat := fx 100000000 314159265 * fx 180000000 lat
theorem lt0_in (lat : Int) : inS (fx 268435456 (lt0 lat).1) (fx 268435456 (lt0 lat).2) (fx 180000000 lat) = true := by
  have o := out_in (l := fx 180000000 lat) (h := fx 180000000 lat) (n := 268435456) (by decide) (in_le.2 ⟨Rat.le_refl, Rat.le_refl⟩)
  rw [oL_fy (by decide), oH_fy (by decide), Int.neg_mul] at o; exact o
theorem rad_in (lat : Int) : inS (fx 268435456 (rad lat).1) (fx 268435456 (rad lat).2) (ang lat) = true := by
  have o := oq_in (D := 100000000) (E := 268435456) (K := 100000000) (by decide) (by decide) (by decide) (by decide) (a := 314159265) (b := 314159266) (u := fx 100000000 314159265) (in_le.2 ⟨Rat.le_refl, (fx_le (by decide)).2 (by decide)⟩) (lt0_in lat)
  rw [oq_comm] at o; exact o
theorem sqr_in (lat : Int) : inS (fx 268435456 (sqr lat).1) (fx 268435456 (sqr lat).2) (ang lat * ang lat) = true :=
  oq_in (by decide) (by decide) (by decide) (by decide) (rad_in lat) (rad_in lat)
theorem thq_in {n a b : Int} {u : Rat} (hn : 0 < n) (hab : a ≤ b) (hu : inS (fx 268435456 a) (fx 268435456 b) u = true) : inS (fx 268435456 (thq n a b).1) (fx 268435456 (thq n a b).2) (u * fx n 1) = true := by
  have o := oq_in (D := 268435456) (E := n) (K := n) (by decide) hn hn rfl hu (c := 1) (d := 1) (v := fx n 1) (in_le.2 ⟨Rat.le_refl, Rat.le_refl⟩)
  rw [oq_one hab] at o; exact o
/-- the polynomial -/
def sx (q t : Rat) : Nat → Rat
  | 0 => 1 - t
  | k + 1 => 1 - (q * fx (cosN k) 1) * sx q t k
theorem one_fx : (1 : Rat) = fx 268435456 268435456 := by unfold fx; have := ne_rat (show (268435456 : Int) ≠ 0 by decide); grind
theorem sub_fx {a b : Int} {u : Rat} (h : inS (fx 268435456 a) (fx 268435456 b) u = true) : inS (fx 268435456 (268435456 - b)) (fx 268435456 (268435456 - a)) (1 - u) = true := by
  rw [in_le] at *
  have e : ∀ x, fx 268435456 (268435456 - x) = 1 - fx 268435456 x := fun x => by
    rw [one_fx, Rat.sub_eq_add_neg, fx_neg, fx_add]; rfl
  rw [e, e]
  constructor <;> grind
theorem cosN_pos (k : Nat) : 0 < cosN k := by unfold cosN; split <;> decide
theorem sx_in {lat : Int} (h0 : -80000000 ≤ lat) (h1 : lat ≤ 80000000) {t : Rat} (ht : t = 0 ∨ t = ang lat * ang lat * fx 132 1) : ∀ k, inS (fx 268435456 (cs lat k).1) (fx 268435456 (cs lat k).2) (sx (ang lat * ang lat) t k) = true := by
  have qo := (sqr_bd h0 h1).2
  intro k
  induction k with
  | zero =>
    have ti := thq_in (n := 132) (by decide) qo (sqr_in lat)
    have z : fx 268435456 0 = 0 := by unfold fx; rw [show ((0 : Int) : Rat) = 0 by rfl]; grind
    have h : inS (fx 268435456 (mn (tq lat).1 0)) (fx 268435456 (mx (tq lat).2 0)) t = true := by
      have ti' : inS (fx 268435456 (tq lat).1) (fx 268435456 (tq lat).2) (ang lat * ang lat * fx 132 1) = true := ti
      have mm := mm0 (tq lat).1 (tq lat).2
      rw [in_le] at *
      rcases ht with e | e
      · rw [e, ← z]; exact ⟨(fx_le (by decide)).2 mm.1.1, (fx_le (by decide)).2 mm.2.1⟩
      · rw [e]
        refine ⟨Rat.le_trans ((fx_le (by decide)).2 ?_) ti'.1, Rat.le_trans ti'.2 ((fx_le (by decide)).2 ?_)⟩
        · unfold mn; split <;> omega
        · unfold mx; split <;> omega
    exact sub_fx h
  | succ k ih =>
    have u := thq_in (cosN_pos k) qo (sqr_in lat)
    have p := oq_in (D := 268435456) (E := 268435456) (K := 268435456) (by decide) (by decide) (by decide) (by decide) u ih
    exact sub_fx p
/-! ### the polynomial falls -/
theorem cosN_lo (k : Nat) (hk : k ≤ 3) : (4 : Rat) * fx (cosN k) 1 ≤ 1 := by
  match k, hk with
  | 0, _ => decide +kernel
  | 1, _ => decide +kernel
  | 2, _ => decide +kernel
  | 3, _ => decide +kernel
theorem cosN_two (k : Nat) : (2 : Rat) * fx (cosN k) 1 ≤ 1 ∧ 0 ≤ fx (cosN k) 1 := by
  unfold cosN; split <;> exact ⟨by decide +kernel, by decide +kernel⟩
theorem sx_unit {q : Rat} (h0 : 0 ≤ q) (h2 : q ≤ 2) : ∀ k, 0 ≤ sx q 0 k ∧ sx q 0 k ≤ 1 := by
  intro k
  induction k with
  | zero => unfold sx; constructor <;> grind
  | succ k ih =>
    have c := cosN_two k
    show 0 ≤ 1 - (q * fx (cosN k) 1) * sx q 0 k ∧ 1 - (q * fx (cosN k) 1) * sx q 0 k ≤ 1
    generalize fx (cosN k) 1 = n at *
    generalize sx q 0 k = s at *
    have a1 : q * n ≤ 1 := by
      have := Rat.mul_le_mul_of_nonneg_right h2 c.2
      grind
    have a0 : 0 ≤ q * n := Rat.mul_nonneg h0 c.2
    have b0 : 0 ≤ q * n * s := Rat.mul_nonneg a0 ih.1
    have b1 : q * n * s ≤ 1 * s := Rat.mul_le_mul_of_nonneg_right a1 ih.1
    constructor <;> grind
theorem sx_fall {p q : Rat} (h0 : 0 ≤ p) (hpq : p ≤ q) (h2 : q ≤ 2) : ∀ k, k ≤ 4 → sx q 0 k ≤ sx p 0 k ∧ p * sx p 0 k ≤ q * sx q 0 k := by
  intro k
  induction k with
  | zero => intro _; unfold sx; constructor <;> grind
  | succ k ih =>
    intro hk
    have i := ih (by omega)
    have c := cosN_two k
    have l := cosN_lo k (by omega)
    have up := sx_unit h0 (Rat.le_trans hpq h2) k
    have uq := sx_unit (Rat.le_trans h0 hpq) h2 k
    show 1 - (q * fx (cosN k) 1) * sx q 0 k ≤ 1 - (p * fx (cosN k) 1) * sx p 0 k ∧ p * (1 - (p * fx (cosN k) 1) * sx p 0 k) ≤ q * (1 - (q * fx (cosN k) 1) * sx q 0 k)
    generalize fx (cosN k) 1 = n at *
    generalize sx p 0 k = s at *
    generalize sx q 0 k = r at *
    have m := Rat.mul_le_mul_of_nonneg_right i.2 c.2
    refine ⟨by grind, ?_⟩
    -- q q r n <= q q s n, and (q q - p p) s n <= (q - p) 4 n <= q - p
    have qq : 0 ≤ q * q * n := Rat.mul_nonneg (Rat.mul_nonneg (Rat.le_trans h0 hpq) (Rat.le_trans h0 hpq)) c.2
    have a : q * q * n * r ≤ q * q * n * s := Rat.mul_le_mul_of_nonneg_left i.1 qq
    have d0 : 0 ≤ q - p := by grind
    have e1 : (q - p) * ((q + p) * n * s) ≤ (q - p) * 1 := by
      refine Rat.mul_le_mul_of_nonneg_left ?_ d0
      have f1 : (q + p) * n ≤ 4 * n := Rat.mul_le_mul_of_nonneg_right (by grind) c.2
      have f0 : 0 ≤ (q + p) * n := Rat.mul_nonneg (by grind) c.2
      have f2 : (q + p) * n * s ≤ (q + p) * n * 1 := Rat.mul_le_mul_of_nonneg_left up.2 f0
      grind
    have e2 : (q - p) * ((q + p) * n * s) = q * q * n * s - p * p * n * s := by grind
    grind
theorem sx_five {p q : Rat} (h0 : 0 ≤ p) (hpq : p ≤ q) (h2 : q ≤ 2) : sx q 0 5 ≤ sx p 0 5 := by
  have i := (sx_fall h0 hpq h2 4 (by decide)).2
  have c := cosN_two 4
  have m := Rat.mul_le_mul_of_nonneg_right i c.2
  show 1 - (q * fx (cosN 4) 1) * sx q 0 4 ≤ 1 - (p * fx (cosN 4) 1) * sx p 0 4
  grind
/-! ### the double angle -/
theorem sx_poly (q t : Rat) : sx q t 5 = 1 - q / 2 + q * q / 24 - q * q * q / 720 + q * q * q * q / 40320 - q * q * q * q * q / 3628800 * (1 - t) := by
  have e : ∀ n : Int, fx n 1 = 1 / ((n : Int) : Rat) := fun n => rfl
  unfold sx sx sx sx sx sx cosN
  simp only [e]
  have a1 : (((90 : Int) : Int) : Rat) = 90 := rfl
  have a2 : (((56 : Int) : Int) : Rat) = 56 := rfl
  have a3 : (((30 : Int) : Int) : Rat) = 30 := rfl
  have a4 : (((12 : Int) : Int) : Rat) = 12 := rfl
  have a5 : (((2 : Int) : Int) : Rat) = 2 := rfl
  rw [a1, a2, a3, a4, a5]
  grind
theorem p6 {q : Rat} (h : 0 ≤ q) : 0 ≤ q * q * q * q * q * q := by
  have a := Rat.mul_nonneg h h
  have b := Rat.mul_nonneg a a
  have c := Rat.mul_nonneg b a
  grind
theorem dbl_lo {q : Rat} (h0 : 0 ≤ q) (h1 : q ≤ 1) : sx (4 * q) 0 5 ≤ 2 * (sx q 0 5 * sx q 0 5) - 1 := by
  rw [sx_poly, sx_poly]
  have a := Rat.mul_nonneg h0 h0
  have a3 := Rat.mul_nonneg a h0
  have a4 := Rat.mul_nonneg a a
  have b2 : q * q ≤ 1 * q := Rat.mul_le_mul_of_nonneg_right h1 h0
  have b3 : q * q * q ≤ 1 * (q * q) := by have := Rat.mul_le_mul_of_nonneg_right h1 a; grind
  have r : 0 ≤ 56246400 - 1209600 * q + 18180 * (q * q) - 180 * (q * q * q) + q * q * (q * q) := by grind
  have z := Rat.mul_nonneg (p6 h0) r
  grind
theorem dbl_hi {q : Rat} (h0 : 0 ≤ q) (h1 : q ≤ 1) : 2 * (sx q 0 5 * sx q 0 5) - 1 ≤ sx (4 * q) (4 * q * fx 132 1) 5 := by
  have e : fx 132 1 = 1 / 132 := rfl
  rw [sx_poly, sx_poly, e]
  have a := Rat.mul_nonneg h0 h0
  have a3 := Rat.mul_nonneg a h0
  have a4 := Rat.mul_nonneg a a
  have b2 : q * q ≤ 1 * q := Rat.mul_le_mul_of_nonneg_right h1 h0
  have b3 : q * q * q ≤ 1 * (q * q) := by have := Rat.mul_le_mul_of_nonneg_right h1 a; grind
  have b4 : q * q * (q * q) ≤ 1 * (q * q * q) := by have := Rat.mul_le_mul_of_nonneg_right h1 a3; grind
  have r : 0 ≤ 604800 + 13305600 * q - 199980 * (q * q) + 1980 * (q * q * q) - 11 * (q * q * (q * q)) := by grind
  have z := Rat.mul_nonneg (p6 h0) r
  grind
end Go.Proofs.YtcokagabchjilaaGreat.Am.Sp

set_option linter.unusedVariables false
set_option linter.unusedSimpArgs false
namespace Go.Proofs.YtcokagabchjilaaGreat.Am.Sp
/-! What the laws of projection say -/
theorem ang_pos {lat : Int} (h : 0 ≤ lat) : 0 ≤ ang lat := by
  unfold ang
  rw [fx_mul]
  have z : fx (100000000 * 180000000) 0 = 0 := by decide +kernel
  rw [← z]; exact (fx_le (by decide)).2 (by omega)
theorem ang_le {a b : Int} (h : a ≤ b) : ang a ≤ ang b := by
  unfold ang; rw [fx_mul, fx_mul]; exact (fx_le (by decide)).2 (by omega)
theorem ang_two (lat : Int) : ang (2 * lat) = 2 * ang lat := by
  unfold ang fx; rw [Rat.intCast_mul]; have : ((2 : Int) : Rat) = 2 := rfl; grind
theorem sq_le {a b : Rat} (h0 : 0 ≤ a) (h : a ≤ b) : a * a ≤ b * b := by
  have x := Rat.mul_le_mul_of_nonneg_left h h0
  have y := Rat.mul_le_mul_of_nonneg_right h (Rat.le_trans h0 h)
  exact Rat.le_trans x y
theorem q_one {lat : Int} (h0 : 0 ≤ lat) (h1 : lat ≤ 40000000) : 0 ≤ ang lat * ang lat ∧ ang lat * ang lat ≤ 1 :=
  ⟨Rat.mul_nonneg (ang_pos h0) (ang_pos h0), Rat.le_trans (sq_le (ang_pos h0) (ang_le h1)) (by decide +kernel)⟩
theorem q_two {lat : Int} (h0 : 0 ≤ lat) (h1 : lat ≤ 80000000) : ang lat * ang lat ≤ 2 := Rat.le_trans (sq_le (ang_pos h0) (ang_le h1)) (by decide +kernel)
theorem cs_flip0 (n : Int) (k : Nat) : cs (0 - n) k = cs n k := by rw [Int.zero_sub, cs_flip]
theorem cs_next {a b : Int} (h0 : 0 ≤ a) (h : a ≤ b) (h1 : b ≤ 80000000) : (cs b 5).1 ≤ (cs a 5).2 := by
  have x := in_le.1 (sx_in (lat := b) (by omega) h1 (.inl rfl) 5)
  have y := in_le.1 (sx_in (lat := a) (by omega) (by omega) (.inl rfl) 5)
  have f := sx_five (p := ang a * ang a) (q := ang b * ang b) (Rat.mul_nonneg (ang_pos h0) (ang_pos h0)) (sq_le (ang_pos h0) (ang_le h)) (q_two (by omega) h1)
  exact (fx_le (D := 268435456) (by decide)).1 (Rat.le_trans x.1 (Rat.le_trans f y.2))
def zq (lat : Int) : Int × Int := oq 268435456 (cs lat 5).1 (cs lat 5).2 (cs lat 5).1 (cs lat 5).2
theorem zq_bd {lat : Int} (h0 : -80000000 ≤ lat) (h1 : lat ≤ 80000000) : ((-268435456 ≤ (zq lat).1 ∧ (zq lat).1 ≤ 268435456) ∧ (-268435456 ≤ (zq lat).2 ∧ (zq lat).2 ≤ 268435456)) ∧ (zq lat).1 ≤ (zq lat).2 := by
  have cu := cs_unit h0 h1 5 (by decide)
  unfold Unit1 at cu
  exact ⟨oq_bd (A := 268435456) (B := 268435456) (by decide) (by decide) (by omega) (by omega) (by omega) cu.2 (by omega) (by omega) (by omega) cu.2, oq_le (by decide)⟩
theorem fx_sub (D a b : Int) : fx D a + (-(fx D b)) = fx D (a - b) := by rw [fx_neg, fx_add]; rfl
theorem fx_subone (a : Int) : fx 268435456 a + (-(fx 1 1)) = fx 268435456 (a - 268435456) := by
  rw [fx_scale (D := 1) (K := 268435456) (by decide) (by decide), show (268435456 : Int) * 1 = 268435456 by rfl, fx_sub]
theorem rv_11 : rv 1 1 = fx 1 1 := by decide +kernel
theorem dbl_meet {lat : Int} (h0 : 0 ≤ lat) (h1 : lat ≤ 40000000) :
    meetS (fx 268435456 ((zq lat).1 + (zq lat).1 - 268435456)) (fx 268435456 ((zq lat).2 + (zq lat).2 - 268435456)) (fx 268435456 (cs (2 * lat) 5).1) (fx 268435456 (cs (2 * lat) 5).2) = true := by
  have q := q_one h0 h1
  have s := sx_in (lat := lat) (by omega) (by omega) (.inl rfl) 5
  have z := in_le.1 (oq_in (D := 268435456) (E := 268435456) (K := 268435456) (by decide) (by decide) (by decide) (by decide) s s)
  have a := in_le.1 (sx_in (lat := 2 * lat) (by omega) (by omega) (.inl rfl) 5)
  have b := in_le.1 (sx_in (lat := 2 * lat) (by omega) (by omega) (.inr rfl) 5)
  have e : ang (2 * lat) * ang (2 * lat) = 4 * (ang lat * ang lat) := by rw [ang_two]; grind
  rw [e] at a b
  have lo := dbl_lo q.1 q.2
  have hi := dbl_hi q.1 q.2
  have t : ∀ x : Int, fx 268435456 (x + x - 268435456) = 2 * fx 268435456 x - 1 := fun x => by
    rw [one_fx, Rat.sub_eq_add_neg, fx_neg, show (2 : Rat) * fx 268435456 x = fx 268435456 x + fx 268435456 x by grind, fx_add, fx_add]; rfl
  have z1 : fx 268435456 (zq lat).1 ≤ sx (ang lat * ang lat) 0 5 * sx (ang lat * ang lat) 0 5 := z.1
  have z2 : sx (ang lat * ang lat) 0 5 * sx (ang lat * ang lat) 0 5 ≤ fx 268435456 (zq lat).2 := z.2
  unfold meetS
  rw [Bool.and_eq_true, decide_eq_true_eq, decide_eq_true_eq, t, t]
  constructor
  · refine Rat.le_trans ?_ (Rat.le_trans hi b.2)
    grind
  · refine Rat.le_trans a.1 (Rat.le_trans lo ?_)
    grind
theorem sixty_half : inS (fx 268435456 (cs 60000000 5).1) (fx 268435456 (cs 60000000 5).2) (fx 2 1) = true := by decide +kernel
theorem wide_lt {lat : Int} (h0 : -80000000 ≤ lat) (h1 : lat ≤ 80000000) : fx 268435456 ((cs lat 5).2 - (cs lat 5).1) < fx 1048576 1 := by
  have w := cs_width h0 h1
  have e : fx 1048576 1 = fx 268435456 256 := by decide +kernel
  rw [e]; exact (fx_lt (by decide)).2 (by omega)
theorem fx_zero_lt {D n : Int} (hD : 0 < D) (h : 0 < n) : (0 : Rat) < fx D n := by
  have z : fx D 0 = 0 := by unfold fx; rw [show ((0 : Int) : Rat) = 0 by rfl]; grind
  rw [← z]; exact (fx_lt hD).2 h
theorem fx_le_one {n : Int} (h : n ≤ 268435456) : fx 268435456 n ≤ ((1 : Int) : Rat) := by
  rw [show ((1 : Int) : Rat) = 1 by rfl, one_fx]; exact (fx_le (by decide)).2 h
/-- a span around a number -/
def nearS (p q : Rat) (n : Int) : Bool := decide (((n : Int) : Rat) + (-((1 : Int) : Rat)) < p) && decide (q < ((n : Int) : Rat) + ((1 : Int) : Rat))
theorem near_fx {D a b n : Int} (hD : 0 < D) (h0 : (n - 1) * D < a) (h1 : b < (n + 1) * D) : nearS (fx D a) (fx D b) n = true := by
  unfold nearS
  rw [Bool.and_eq_true, decide_eq_true_eq, decide_eq_true_eq]
  have e1 : ((n : Int) : Rat) + (-((1 : Int) : Rat)) = fx D ((n - 1) * D) := by rw [← fx_int hD]; rw [Rat.intCast_sub]; grind
  have e2 : ((n : Int) : Rat) + ((1 : Int) : Rat) = fx D ((n + 1) * D) := by rw [← fx_int hD]; rw [Rat.intCast_add]
  rw [e1, e2]
  exact ⟨(fx_lt hD).2 h0, (fx_lt hD).2 h1⟩
theorem has_fx {D a b n : Int} (hD : 0 < D) (h0 : a ≤ n * D) (h1 : n * D ≤ b) : inS (fx D a) (fx D b) ((n : Int) : Rat) = true := by
  rw [in_le, fx_int hD]; exact ⟨(fx_le hD).2 h0, (fx_le hD).2 h1⟩
theorem lat_holds {slat sc lat py : Int} (h0 : (py - 1) * 1000000 < (lat - slat) * sc) (h1 : (lat - slat) * sc < (py + 1) * 1000000) : slat * sc + (py - 1) * 1000000 ≤ lat * sc ∧ lat * sc ≤ slat * sc + (py + 1) * 1000000 := by
  have e : (lat - slat) * sc = lat * sc - slat * sc := by grind
  rw [e] at h0 h1
  omega
end Go.Proofs.YtcokagabchjilaaGreat.Am.Sp

