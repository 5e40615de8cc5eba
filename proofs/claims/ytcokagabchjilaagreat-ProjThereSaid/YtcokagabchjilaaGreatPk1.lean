import Derived.Test.YtcokagabchjilaaGreatPj6
set_option linter.unusedVariables false
set_option linter.unusedSimpArgs false
namespace Go.Proofs.YtcokagabchjilaaGreat.Am.Sp
/-! Places up to two degrees away: bounds, the way back, order -/
theorem acr_near2 {slat slon sc lon : Int} (l0 : -80000000 ≤ slat) (l1 : slat ≤ 80000000) (h0 : -2100000 ≤ lon - slon) (h1 : lon - slon ≤ 2100000) (s0 : 1 ≤ sc) (s1 : sc ≤ 5000) :
    ((acr slat slon sc lon).2 - (acr slat slon sc lon).1 ≤ 200 ∧ (acr slat slon sc lon).1 ≤ (acr slat slon sc lon).2) ∧ (-(sc * 137632 + 17) ≤ (acr slat slon sc lon).1 ∧ (acr slat slon sc lon).2 ≤ sc * 137632 + 17) := by
  have m := mul_bd (a := lon - slon) (b := sc) (A := 2100000) (B := sc) h0 h1 (by omega) (by omega)
  have cw := cs_width l0 l1
  have cu := cs_unit l0 l1 5 (by decide)
  unfold Unit1 at cu
  have wb : ((-(sc * 8602 + 1) ≤ (wy slon sc lon).1 ∧ (wy slon sc lon).2 ≤ sc * 8602 + 1) ∧ (wy slon sc lon).1 ≤ (wy slon sc lon).2) ∧ (wy slon sc lon).2 - (wy slon sc lon).1 ≤ 1 := by
    unfold wy
    generalize (lon - slon) * sc = x at *
    omega
  refine ⟨⟨?_, oq_le (by decide)⟩, ?_⟩
  · exact oq_width (K := 16777216) (W := 1) (D := 268435456) (A := 43010001) (V := 48) (by decide) wb.1.2 cu.1.2 wb.2 cw (by omega) cu.2 (by omega) (by omega) (by decide)
  · have b := oq_bd (K := 16777216) (a := (wy slon sc lon).1) (b := (wy slon sc lon).2) (c := (cs slat 5).1) (d := (cs slat 5).2) (A := sc * 8602 + 1) (B := 268435456) (C := sc * 137632 + 16) (by decide) (by omega) wb.1.1.1 (by omega) (by omega) wb.1.1.2 (by omega) (by omega) (by omega) cu.2
    have b' : (-(sc * 137632 + 16) ≤ (acr slat slon sc lon).1 ∧ (acr slat slon sc lon).1 ≤ sc * 137632 + 16) ∧ (-(sc * 137632 + 16) ≤ (acr slat slon sc lon).2 ∧ (acr slat slon sc lon).2 ≤ sc * 137632 + 16) := b
    omega
theorem pt_near2 {slat slon sc lat lon : Int} (l0 : -80000000 ≤ slat) (l1 : slat ≤ 80000000) (h0 : -2100000 ≤ lon - slon) (h1 : lon - slon ≤ 2100000) (g0 : -2100000 ≤ lat - slat) (g1 : lat - slat ≤ 2100000) (s0 : 1 ≤ sc) (s1 : sc ≤ 5000) :
    ((-(3 * sc + 1) ≤ ptx slat slon sc lon ∧ ptx slat slon sc lon ≤ 3 * sc + 1) ∧ (-(3 * sc + 1) ≤ pty slat sc lat ∧ pty slat sc lat ≤ 3 * sc + 1)) ∧
    (((ptx slat slon sc lon - 1) * 65536 < (acr slat slon sc lon).1 ∧ (acr slat slon sc lon).2 < (ptx slat slon sc lon + 1) * 65536) ∧
    ((pty slat sc lat - 1) * 1000000 < (lat - slat) * sc ∧ (lat - slat) * sc < (pty slat sc lat + 1) * 1000000)) := by
  have a := acr_near2 l0 l1 h0 h1 s0 s1
  have m := mul_bd (a := lat - slat) (b := sc) (A := 2100000) (B := sc) g0 g1 (by omega) (by omega)
  unfold ptx pty
  generalize (lat - slat) * sc = y at *
  omega
theorem pt_okb2 {x y sc : Int} (s1 : sc ≤ 5000) (hx : -(3 * sc + 1) ≤ x ∧ x ≤ 3 * sc + 1) (hy : -(3 * sc + 1) ≤ y ∧ y ≤ 3 * sc + 1) : (x == lim 1048576 x && (y == lim 1048576 y && true)) = true := by
  rw [lim_id (by omega) (by omega), lim_id (by omega) (by omega)]; simp
theorem bw_near2 {px sc : Int} (s0 : 1 ≤ sc) (hx : -(3 * sc + 1) ≤ px ∧ px ≤ 3 * sc + 1) : (-6000000 ≤ bwl px sc ∧ bwl px sc ≤ 6000000) ∧ (-6000000 ≤ bwh px sc ∧ bwh px sc ≤ 6000000) := by
  have a := ediv_bd' (x := (px - 1) * 1000000) (K := sc) (C := 6000000) (by omega) (by omega) (by omega)
  have b := ediv_bd' (x := -((px + 1) * 1000000)) (K := sc) (C := 6000000) (by omega) (by omega) (by omega)
  exact ⟨a, by show _ ≤ -(_ / _) ∧ -(_ / _) ≤ _; omega⟩
theorem bk_holds2 {slat slon sc lon : Int} (l0 : -80000000 ≤ slat) (l1 : slat ≤ 80000000) (s0 : 1 ≤ sc) (p : (ptx slat slon sc lon - 1) * 65536 < (acr slat slon sc lon).1 ∧ (acr slat slon sc lon).2 < (ptx slat slon sc lon + 1) * 65536) :
    bkL (cs slat 5).1 (cs slat 5).2 (bwl (ptx slat slon sc lon) sc) (bwh (ptx slat slon sc lon) sc) ≤ lon - slon ∧ lon - slon ≤ bkH (cs slat 5).1 (cs slat 5).2 (bwl (ptx slat slon sc lon) sc) (bwh (ptx slat slon sc lon) sc) := by
  have cu := cs_unit l0 l1 5 (by decide)
  unfold Unit1 at cu
  have hc : 0 < (cs slat 5).1 := by omega
  have n := n4_le ((wy slon sc lon).1 * (cs slat 5).1) ((wy slon sc lon).1 * (cs slat 5).2) ((wy slon sc lon).2 * (cs slat 5).1) ((wy slon sc lon).2 * (cs slat 5).2)
  have y := y4_ge ((wy slon sc lon).1 * (cs slat 5).1) ((wy slon sc lon).1 * (cs slat 5).2) ((wy slon sc lon).2 * (cs slat 5).1) ((wy slon sc lon).2 * (cs slat 5).2)
  have a1 : (acr slat slon sc lon).1 * 16777216 ≤ (wy slon sc lon).1 * (cs slat 5).1 := by
    have : (acr slat slon sc lon).1 * 16777216 ≤ n4 _ _ _ _ := Int.ediv_mul_le (n4 ((wy slon sc lon).1 * (cs slat 5).1) ((wy slon sc lon).1 * (cs slat 5).2) ((wy slon sc lon).2 * (cs slat 5).1) ((wy slon sc lon).2 * (cs slat 5).2)) (show (16777216 : Int) ≠ 0 by decide)
    omega
  have a2 : (wy slon sc lon).2 * (cs slat 5).1 ≤ (acr slat slon sc lon).2 * 16777216 := by
    have h : -(y4 ((wy slon sc lon).1 * (cs slat 5).1) ((wy slon sc lon).1 * (cs slat 5).2) ((wy slon sc lon).2 * (cs slat 5).1) ((wy slon sc lon).2 * (cs slat 5).2)) / 16777216 * 16777216 ≤ -(y4 ((wy slon sc lon).1 * (cs slat 5).1) ((wy slon sc lon).1 * (cs slat 5).2) ((wy slon sc lon).2 * (cs slat 5).1) ((wy slon sc lon).2 * (cs slat 5).2)) := Int.ediv_mul_le _ (show (16777216 : Int) ≠ 0 by decide)
    have e : (acr slat slon sc lon).2 = -(-(y4 ((wy slon sc lon).1 * (cs slat 5).1) ((wy slon sc lon).1 * (cs slat 5).2) ((wy slon sc lon).2 * (cs slat 5).1) ((wy slon sc lon).2 * (cs slat 5).2)) / 16777216) := rfl
    rw [e]; omega
  have w1 : (wy slon sc lon).1 * 1000000 ≤ (lon - slon) * sc * 4096 := Int.ediv_mul_le _ (by decide)
  have w2 : (lon - slon) * sc * 4096 ≤ (wy slon sc lon).2 * 1000000 := by
    have h : -((lon - slon) * sc * 4096) / 1000000 * 1000000 ≤ -((lon - slon) * sc * 4096) := Int.ediv_mul_le _ (by decide)
    have e : (wy slon sc lon).2 = -(-((lon - slon) * sc * 4096) / 1000000) := rfl
    rw [e]; omega
  have m1 : (wy slon sc lon).1 * 1000000 * (cs slat 5).1 ≤ (lon - slon) * sc * 4096 * (cs slat 5).1 := Int.mul_le_mul_of_nonneg_right w1 (by omega)
  have m2 : (lon - slon) * sc * 4096 * (cs slat 5).1 ≤ (wy slon sc lon).2 * 1000000 * (cs slat 5).1 := Int.mul_le_mul_of_nonneg_right w2 (by omega)
  have e1 : (wy slon sc lon).1 * 1000000 * (cs slat 5).1 = 1000000 * ((wy slon sc lon).1 * (cs slat 5).1) := by grind
  have e2 : (wy slon sc lon).2 * 1000000 * (cs slat 5).1 = 1000000 * ((wy slon sc lon).2 * (cs slat 5).1) := by grind
  have e3 : (lon - slon) * sc * 4096 * (cs slat 5).1 = 4096 * ((lon - slon) * (cs slat 5).1 * sc) := by grind
  have b1 : bwl (ptx slat slon sc lon) sc * sc ≤ (ptx slat slon sc lon - 1) * 1000000 := Int.ediv_mul_le _ (by omega)
  have b2 : (ptx slat slon sc lon + 1) * 1000000 ≤ bwh (ptx slat slon sc lon) sc * sc := by
    have h : -((ptx slat slon sc lon + 1) * 1000000) / sc * sc ≤ -((ptx slat slon sc lon + 1) * 1000000) := Int.ediv_mul_le _ (by omega)
    have e : bwh (ptx slat slon sc lon) sc = -(-((ptx slat slon sc lon + 1) * 1000000) / sc) := rfl
    rw [e, Int.neg_mul]; omega
  have k1 : bwl (ptx slat slon sc lon) sc * 268435456 * sc ≤ (lon - slon) * (cs slat 5).1 * sc := by
    have : bwl (ptx slat slon sc lon) sc * 268435456 * sc = 268435456 * (bwl (ptx slat slon sc lon) sc * sc) := by grind
    omega
  have k2 : (lon - slon) * (cs slat 5).1 * sc ≤ bwh (ptx slat slon sc lon) sc * 268435456 * sc := by
    have : bwh (ptx slat slon sc lon) sc * 268435456 * sc = 268435456 * (bwh (ptx slat slon sc lon) sc * sc) := by grind
    omega
  have j1 := Int.le_of_mul_le_mul_right k1 (by omega)
  have j2 := Int.le_of_mul_le_mul_right k2 (by omega)
  have n' := n4_le (bwl (ptx slat slon sc lon) sc * 268435456 / (cs slat 5).1) (bwl (ptx slat slon sc lon) sc * 268435456 / (cs slat 5).2) (bwh (ptx slat slon sc lon) sc * 268435456 / (cs slat 5).1) (bwh (ptx slat slon sc lon) sc * 268435456 / (cs slat 5).2)
  have y' := y4_ge (-(-(bwl (ptx slat slon sc lon) sc * 268435456) / (cs slat 5).1)) (-(-(bwl (ptx slat slon sc lon) sc * 268435456) / (cs slat 5).2)) (-(-(bwh (ptx slat slon sc lon) sc * 268435456) / (cs slat 5).1)) (-(-(bwh (ptx slat slon sc lon) sc * 268435456) / (cs slat 5).2))
  constructor
  · have : bwl (ptx slat slon sc lon) sc * 268435456 / (cs slat 5).1 ≤ lon - slon := by
      have := Int.ediv_le_ediv hc j1
      rw [Int.mul_ediv_cancel _ (by omega)] at this; exact this
    unfold bkL; omega
  · have : lon - slon ≤ -(-(bwh (ptx slat slon sc lon) sc * 268435456) / (cs slat 5).1) := by
      have := Int.ediv_le_ediv hc (show -(bwh (ptx slat slon sc lon) sc * 268435456) ≤ -(lon - slon) * (cs slat 5).1 by rw [Int.neg_mul]; omega)
      rw [Int.mul_ediv_cancel _ (by omega)] at this; omega
    unfold bkH; omega
theorem ptx_mono {slat slon sc a b : Int} (l0 : -80000000 ≤ slat) (l1 : slat ≤ 80000000) (s0 : 1 ≤ sc) (h : a ≤ b) : ptx slat slon sc a ≤ ptx slat slon sc b := by
  have cu := cs_unit l0 l1 5 (by decide)
  unfold Unit1 at cu
  have hm : (a - slon) * sc ≤ (b - slon) * sc := Int.mul_le_mul_of_nonneg_right (by omega) (by omega)
  have w1 : (wy slon sc a).1 ≤ (wy slon sc b).1 := Int.ediv_le_ediv (by decide) (by omega)
  have w2 : (wy slon sc a).2 ≤ (wy slon sc b).2 := by
    have : -((b - slon) * sc * 4096) / 1000000 ≤ -((a - slon) * sc * 4096) / 1000000 := Int.ediv_le_ediv (by decide) (by omega)
    show -(-((a - slon) * sc * 4096) / 1000000) ≤ -(-((b - slon) * sc * 4096) / 1000000)
    omega
  have c1 : 0 ≤ (cs slat 5).1 := by omega
  have c2 : 0 ≤ (cs slat 5).2 := by omega
  have m1 := Int.mul_le_mul_of_nonneg_right w1 c1
  have m2 := Int.mul_le_mul_of_nonneg_right w1 c2
  have m3 := Int.mul_le_mul_of_nonneg_right w2 c1
  have m4 := Int.mul_le_mul_of_nonneg_right w2 c2
  have n1 := n4_le ((wy slon sc a).1 * (cs slat 5).1) ((wy slon sc a).1 * (cs slat 5).2) ((wy slon sc a).2 * (cs slat 5).1) ((wy slon sc a).2 * (cs slat 5).2)
  have n2 := n4_le ((wy slon sc b).1 * (cs slat 5).1) ((wy slon sc b).1 * (cs slat 5).2) ((wy slon sc b).2 * (cs slat 5).1) ((wy slon sc b).2 * (cs slat 5).2)
  have y1 := y4_ge ((wy slon sc a).1 * (cs slat 5).1) ((wy slon sc a).1 * (cs slat 5).2) ((wy slon sc a).2 * (cs slat 5).1) ((wy slon sc a).2 * (cs slat 5).2)
  have y2 := y4_ge ((wy slon sc b).1 * (cs slat 5).1) ((wy slon sc b).1 * (cs slat 5).2) ((wy slon sc b).2 * (cs slat 5).1) ((wy slon sc b).2 * (cs slat 5).2)
  have q1 : (acr slat slon sc a).1 ≤ (acr slat slon sc b).1 := by
    show _ / _ ≤ _ / _
    exact Int.ediv_le_ediv (by decide) (by omega)
  have q2 : (acr slat slon sc a).2 ≤ (acr slat slon sc b).2 := by
    have : -(y4 ((wy slon sc b).1 * (cs slat 5).1) ((wy slon sc b).1 * (cs slat 5).2) ((wy slon sc b).2 * (cs slat 5).1) ((wy slon sc b).2 * (cs slat 5).2)) / 16777216 ≤ -(y4 ((wy slon sc a).1 * (cs slat 5).1) ((wy slon sc a).1 * (cs slat 5).2) ((wy slon sc a).2 * (cs slat 5).1) ((wy slon sc a).2 * (cs slat 5).2)) / 16777216 := Int.ediv_le_ediv (by decide) (by omega)
    show -(_ / _) ≤ -(_ / _)
    omega
  exact Int.ediv_le_ediv (by decide) (by omega)
theorem pty_mono {slat sc a b : Int} (s0 : 1 ≤ sc) (h : a ≤ b) : pty slat sc a ≤ pty slat sc b := by
  have hm : (a - slat) * sc ≤ (b - slat) * sc := Int.mul_le_mul_of_nonneg_right (by omega) (by omega)
  exact Int.ediv_le_ediv (by decide) (by omega)
theorem rsgn_fx {D n : Int} (hD : 0 < D) (h : 0 < n) : decide (rsgn (fx D n) > 0) = true := by
  have p := fx_zero_lt hD h
  unfold rsgn
  rw [if_neg (by grind), if_pos p]
  rfl
end Go.Proofs.YtcokagabchjilaaGreat.Am.Sp

