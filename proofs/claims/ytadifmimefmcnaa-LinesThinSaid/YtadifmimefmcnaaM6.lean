import Derived.Test.YtadifmimefmcnaaM5
import Derived.Test.YtadifmimefmcnaaM4
import Derived.Test.YtadifmimefmcnaaProg
import Derived.Test.YtadifmimefmcnaaM2
import Derived.Test.YtadifmimefmcnaaM3
import Derived.Test.YtadifmimefmcnaaM0
set_option maxHeartbeats 4000000
set_option linter.unusedVariables false
set_option linter.unusedSimpArgs false
namespace Go.Proofs.Ytadifmimefmcnaa.Am.Sp
open Go
theorem jU (a b : Int) : a < b ∨ b ≤ a := by omega
theorem fU (x : Int) : 0 ≤ x * x := by
  rcases jU x 0 with h | h
  · have := Int.mul_pos_of_neg_of_neg h h; omega
  · exact Int.mul_nonneg h h
def tr (a b c : Int × Int) : Int := crs a.1 a.2 b.1 b.2 c.1 c.2
def onP (a b p : Int × Int) : Bool := onb a.1 a.2 b.1 b.2 p.1 p.2
def mt (a b c d : Int × Int) : Int := qX a.1 a.2 b.1 b.2 c.1 c.2 d.1 d.2
def pp (a b c d : Int × Int) : Bool := prp a.1 a.2 b.1 b.2 c.1 c.2 d.1 d.2
def dt (a b c : Int × Int) : Int := dot a.1 a.2 b.1 b.2 c.1 c.2
theorem xE {a b p : Int × Int} : onP a b p = true ↔ tr a b p = 0 ∧ dt p a b ≤ 0 := by
  unfold onP onb tr dt
  rw [Bool.and_eq_true, beq_iff_eq, decide_eq_true_eq]
  have : cmp (crs a.1 a.2 b.1 b.2 p.1 p.2) 0 = 0 ↔ crs a.1 a.2 b.1 b.2 p.1 p.2 = 0 := by unfold cmp; (repeat' split) <;> omega
  rw [this]
theorem bC {a b c d : Int × Int} : pp a b c d = true ↔ tr a b c * tr a b d < 0 ∧ tr c d a * tr c d b < 0 := prp_iff ..
theorem cU {a b c d : Int × Int} : mt a b c d = 0 ↔ pp a b c d = false ∧ onP c d a = false ∧ onP c d b = false ∧ onP a b c = false ∧ onP a b d = false := by
  have key : (shr a.1 a.2 b.1 b.2 c.1 c.2 d.1 d.2).length = 0 ↔ onP c d a = false ∧ onP c d b = false ∧ onP a b c = false ∧ onP a b d = false := by
    rw [List.length_eq_zero_iff, List.eq_nil_iff_forall_not_mem]
    constructor
    · intro h
      refine ⟨?_, ?_, ?_, ?_⟩ <;> rw [Bool.eq_false_iff] <;> intro k
      · exact h (a.1, a.2) (mem_shr.2 (.inl ⟨rfl, k⟩))
      · exact h (b.1, b.2) (mem_shr.2 (.inr (.inl ⟨rfl, k⟩)))
      · exact h (c.1, c.2) (mem_shr.2 (.inr (.inr (.inl ⟨rfl, k⟩))))
      · exact h (d.1, d.2) (mem_shr.2 (.inr (.inr (.inr ⟨rfl, k⟩))))
    · rintro ⟨h1, h2, h3, h4⟩ z hz
      unfold onP at h1 h2 h3 h4
      rcases mem_shr.1 hz with h | h | h | h
      · rw [h1] at h; cases h.2
      · rw [h2] at h; cases h.2
      · rw [h3] at h; cases h.2
      · rw [h4] at h; cases h.2
  unfold mt qX pp
  split
  · rename_i h; rw [h]; simp
  · rename_i h
    rw [Bool.eq_false_iff.2 h, ← key]
    unfold mn; simp only [true_and]
    split <;> omega
/-- three numbers at a point, and what a line tells of the corners -/
theorem eP (a p b q : Int × Int) : tr a p q + tr p b q + tr b a q = tr a p b := by unfold tr crs; grind
theorem qC6 (a p b c d q : Int × Int) : tr p b q * tr c d a + tr b a q * tr c d p + tr a p q * tr c d b = tr a p b * tr c d q := by unfold tr crs; grind
theorem tr_c (c d : Int × Int) : tr c d c = 0 ∧ tr c d d = 0 := by unfold tr crs; grind
theorem vU {x y : Int} (hx : 0 < x) (hy : y < 0) : x * y < 0 := Int.mul_neg_of_pos_of_neg hx hy
theorem pY {S Xc Yc Zc Xd Yd Zd Fa Fb Fp : Int} (hS : 0 < S) (c1 : Xc + Yc + Zc = S) (d1 : Xd + Yd + Zd = S) (c2 : Yc * Fa + Zc * Fp + Xc * Fb = 0) (d2 : Yd * Fa + Zd * Fp + Xd * Fb = 0) (hd : 0 < Zd) (hc : Zc < 0) (ho : ¬ (0 ≤ Xd ∧ 0 ≤ Yd)) (ha : 0 < Fa) (hb : Fb < 0) :
    (Fp * Fb < 0 ∧ Yc * Yd < 0) ∨ (Fa * Fp < 0 ∧ Xc * Xd < 0) ∨ (Fp = 0 ∧ Xc * Xd < 0 ∧ Yc * Yd < 0) := by
  rcases Int.lt_trichotomy Fp 0 with h | h | h
  · -- a and p are on two sides
    right; left
    have x1 : Xd < 0 := by
      rcases jU Xd 0 with k | k
      · exact k
      · have t1 : Xd * Fb ≤ 0 := Int.mul_nonpos_of_nonneg_of_nonpos k (by omega)
        have t2 : Zd * Fp < 0 := vU hd h
        have t3 : 0 < Yd * Fa := by omega
        have t4 : 0 < Yd := by
          rcases jU 0 Yd with q | q
          · exact q
          · have := Int.mul_nonpos_of_nonpos_of_nonneg q (show 0 ≤ Fa by omega); omega
        exact absurd ⟨k, by omega⟩ ho
    have x2 : 0 < Xc := by
      rcases jU 0 Xc with k | k
      · exact k
      · have t1 : 0 ≤ Xc * Fb := Int.mul_nonneg_of_nonpos_of_nonpos k (by omega)
        have t2 : 0 < Zc * Fp := Int.mul_pos_of_neg_of_neg hc h
        have t3 : Yc * Fa < 0 := by omega
        have t4 : Yc < 0 := by
          rcases jU Yc 0 with q | q
          · exact q
          · have := Int.mul_nonneg q (show 0 ≤ Fa by omega); omega
        omega
    exact ⟨vU ha h, vU x2 x1⟩
  · subst h
    right; right
    simp only [Int.mul_zero, Int.add_zero] at c2 d2
    have same : ∀ X Y : Int, Y * Fa + X * Fb = 0 → (0 < X ∧ 0 < Y) ∨ (X = 0 ∧ Y = 0) ∨ (X < 0 ∧ Y < 0) := by
      intro X Y e
      rcases Int.lt_trichotomy X 0 with h | h | h
      · have := Int.mul_pos_of_neg_of_neg h hb
        rcases jU Y 0 with q | q
        · exact .inr (.inr ⟨h, q⟩)
        · have := Int.mul_nonneg q (show 0 ≤ Fa by omega); omega
      · subst h
        rw [Int.zero_mul, Int.add_zero] at e
        rcases Int.mul_eq_zero.1 e with q | q
        · exact .inr (.inl ⟨rfl, q⟩)
        · omega
      · have := vU h hb
        rcases jU 0 Y with q | q
        · exact .inl ⟨h, q⟩
        · have := Int.mul_nonpos_of_nonpos_of_nonneg q (show 0 ≤ Fa by omega); omega
    have xd : Xd < 0 ∧ Yd < 0 := by
      rcases same Xd Yd (by omega) with q | q | q
      · exact absurd ⟨by omega, by omega⟩ ho
      · exact absurd ⟨by omega, by omega⟩ ho
      · exact q
    have xc : 0 < Xc ∧ 0 < Yc := by
      rcases same Xc Yc (by omega) with q | q | q <;> omega
    exact ⟨rfl, vU xc.1 xd.1, vU xc.2 xd.2⟩
  · left
    have y1 : Yd < 0 := by
      rcases jU Yd 0 with k | k
      · exact k
      · have t1 : 0 ≤ Yd * Fa := Int.mul_nonneg k (by omega)
        have t2 : 0 < Zd * Fp := Int.mul_pos hd h
        have t3 : Xd * Fb < 0 := by omega
        have t4 : 0 < Xd := by
          rcases jU 0 Xd with q | q
          · exact q
          · have := Int.mul_nonneg_of_nonpos_of_nonpos q (show Fb ≤ 0 by omega); omega
        exact absurd ⟨by omega, k⟩ ho
    have y2 : 0 < Yc := by
      rcases jU 0 Yc with k | k
      · exact k
      · have t1 : Yc * Fa ≤ 0 := Int.mul_nonpos_of_nonpos_of_nonneg k (by omega)
        have t2 : Zc * Fp < 0 := Int.mul_neg_of_neg_of_pos hc h
        have t3 : 0 < Xc * Fb := by omega
        have t4 : Xc < 0 := by
          rcases jU Xc 0 with q | q
          · exact q
          · have := Int.mul_nonpos_of_nonneg_of_nonpos q (show Fb ≤ 0 by omega); omega
        omega
    exact ⟨vU h hb, vU y2 y1⟩
theorem xD {S Xc Yc Zc Xd Yd Zd Fa Fb Fp : Int} (hS : 0 < S) (c1 : Xc + Yc + Zc = S) (d1 : Xd + Yd + Zd = S) (c2 : Yc * Fa + Zc * Fp + Xc * Fb = 0) (d2 : Yd * Fa + Zd * Fp + Xd * Fb = 0) (hd : 0 < Zd) (hc : Zc < 0) (ho : ¬ (0 ≤ Xd ∧ 0 ≤ Yd)) (hab : Fa * Fb < 0) :
    (Fp * Fb < 0 ∧ Yc * Yd < 0) ∨ (Fa * Fp < 0 ∧ Xc * Xd < 0) ∨ (Fp = 0 ∧ Xc * Xd < 0 ∧ Yc * Yd < 0) := by
  rcases Int.lt_trichotomy Fa 0 with h | h | h
  · have hb : 0 < Fb := by
      rcases jU 0 Fb with q | q
      · exact q
      · have := Int.mul_nonneg_of_nonpos_of_nonpos (show Fa ≤ 0 by omega) q; omega
    have r := pY (Fa := -Fa) (Fb := -Fb) (Fp := -Fp) hS c1 d1 (by grind) (by grind) hd hc ho (by omega) (by omega)
    rw [Int.neg_mul_neg, Int.neg_mul_neg] at r
    rcases r with r | r | r
    · exact .inl r
    · exact .inr (.inl r)
    · exact .inr (.inr ⟨by omega, r.2⟩)
  · subst h; simp at hab
  · have hb : Fb < 0 := by
      rcases jU Fb 0 with q | q
      · exact q
      · have := Int.mul_nonneg (show 0 ≤ Fa by omega) q; omega
    exact pY hS c1 d1 c2 d2 hd hc ho h hb
/-- a point of a line between two others, told by a third line through it -/
theorem qAB {b p c d : Int × Int} (h : tr c d p = 0) (k : tr p b c * tr p b d < 0) : onP c d p = true := by
  rw [xE]
  refine ⟨h, ?_⟩
  have e : tr p b c * dt p c d = tr p b d * dt p c c := by
    have h' : tr p c d = 0 := by have : tr p c d = tr c d p := by unfold tr crs; grind
                                 omega
    unfold tr crs at h' ⊢; unfold dt dot; grind
  have s : 0 ≤ dt p c c := by
    unfold dt dot
    have h1 := fU (c.1 - p.1)
    have h2 := fU (c.2 - p.2)
    omega
  rcases jU 0 (dt p c d) with q | q
  · exfalso
    have m1 : tr p b c * dt p c d * tr p b d < 0 := by
      have : tr p b c * dt p c d * tr p b d = tr p b c * tr p b d * dt p c d := by grind
      rw [this]; exact Int.mul_neg_of_neg_of_pos k q
    rw [e] at m1
    have m2 : tr p b d * dt p c c * tr p b d = tr p b d * tr p b d * dt p c c := by grind
    rw [m2] at m1
    have := Int.mul_nonneg (fU (tr p b d)) s
    omega
  · exact q
def triB (a p b q : Int × Int) : Bool :=
  if tr a p b = 0 then onP a p q || onP p b q else (decide (0 ≤ tr a p q) && (decide (0 ≤ tr p b q) && decide (0 ≤ tr b a q))) || (decide (tr a p q ≤ 0) && (decide (tr p b q ≤ 0) && decide (tr b a q ≤ 0)))
theorem tri_no {a p b q : Int × Int} (hS : tr a p b ≠ 0) (h : triB a p b q = false) : ¬ (0 ≤ tr a p q ∧ 0 ≤ tr p b q ∧ 0 ≤ tr b a q) ∧ ¬ (tr a p q ≤ 0 ∧ tr p b q ≤ 0 ∧ tr b a q ≤ 0) := by
  unfold triB at h
  rw [if_neg hS] at h
  simp only [Bool.or_eq_false_iff, Bool.and_eq_false_iff, decide_eq_false_iff_not] at h
  constructor
  · rintro ⟨h1, h2, h3⟩; rcases h.1 with k | k | k <;> omega
  · rintro ⟨h1, h2, h3⟩; rcases h.2 with k | k | k <;> omega
theorem tr_ba (a b q : Int × Int) : tr b a q = -(tr a b q) := by unfold tr crs; grind
theorem neg_mul2 {x y : Int} : (-x) * (-y) = x * y := Int.neg_mul_neg x y
theorem sS {a p b c d : Int × Int} (hS : tr a p b ≠ 0) (hc : triB a p b c = false) (hd : triB a p b d = false) (h : pp a b c d = true) :
    (tr c d p * tr c d b < 0 ∧ tr p b c * tr p b d < 0) ∨ (tr c d a * tr c d p < 0 ∧ tr a p c * tr a p d < 0) ∨ (tr c d p = 0 ∧ tr a p c * tr a p d < 0 ∧ tr p b c * tr p b d < 0) := by
  obtain ⟨hz, hab⟩ := bC.1 h
  have hz' : tr b a c * tr b a d < 0 := by rw [tr_ba a b c, tr_ba a b d, neg_mul2]; exact hz
  have sc := eP a p b c
  have sd := eP a p b d
  have lc := qC6 a p b c d c
  have ld := qC6 a p b c d d
  rw [(tr_c c d).1, Int.mul_zero] at lc
  rw [(tr_c c d).2, Int.mul_zero] at ld
  have nc := tri_no hS hc
  have nd := tri_no hS hd
  have signs : (tr b a c < 0 ∧ 0 < tr b a d) ∨ (0 < tr b a c ∧ tr b a d < 0) := by
    rcases Int.lt_trichotomy (tr b a c) 0 with k | k | k
    · left; refine ⟨k, ?_⟩
      rcases jU 0 (tr b a d) with q | q
      · exact q
      · have := Int.mul_nonneg_of_nonpos_of_nonpos (show tr b a c ≤ 0 by omega) q; omega
    · rw [k] at hz'; simp at hz'
    · right; refine ⟨k, ?_⟩
      rcases jU (tr b a d) 0 with q | q
      · exact q
      · have := Int.mul_nonneg (show 0 ≤ tr b a c by omega) q; omega
  rcases Int.lt_or_gt_of_ne hS with s | s
  · -- the other way round
    rcases signs with ⟨k1, k2⟩ | ⟨k1, k2⟩
    · have r := xD (Fa := tr c d a) (Fb := tr c d b) (Fp := tr c d p) (S := -(tr a p b)) (Xc := -(tr a p d)) (Yc := -(tr p b d)) (Zc := -(tr b a d)) (Xd := -(tr a p c)) (Yd := -(tr p b c)) (Zd := -(tr b a c)) (by omega) (by omega) (by omega) (by grind) (by grind) (by omega) (by omega) (fun q => nc.2 ⟨by omega, by omega, by omega⟩) hab
      rw [neg_mul2, neg_mul2, Int.mul_comm (tr p b d), Int.mul_comm (tr a p d)] at r
      exact r
    · have r := xD (Fa := tr c d a) (Fb := tr c d b) (Fp := tr c d p) (S := -(tr a p b)) (Xc := -(tr a p c)) (Yc := -(tr p b c)) (Zc := -(tr b a c)) (Xd := -(tr a p d)) (Yd := -(tr p b d)) (Zd := -(tr b a d)) (by omega) (by omega) (by omega) (by grind) (by grind) (by omega) (by omega) (fun q => nd.2 ⟨by omega, by omega, by omega⟩) hab
      rw [neg_mul2, neg_mul2] at r
      exact r
  · rcases signs with ⟨k1, k2⟩ | ⟨k1, k2⟩
    · exact xD (Fp := tr c d p) (S := tr a p b) (Zc := tr b a c) (Zd := tr b a d) s sc sd lc ld k2 k1 (fun q => nd.1 ⟨q.1, q.2, by omega⟩) hab
    · have r := xD (Fp := tr c d p) (S := tr a p b) (Xc := tr a p d) (Yc := tr p b d) (Zc := tr b a d) (Xd := tr a p c) (Yd := tr p b c) (Zd := tr b a c) s sd sc ld lc k1 k2 (fun q => nc.1 ⟨q.1, q.2, by omega⟩) hab
      rw [Int.mul_comm (tr p b d), Int.mul_comm (tr a p d)] at r
      exact r
/-- a point of the third side lies in the triangle -/
theorem on_tri {a p b c : Int × Int} (hS : tr a p b ≠ 0) (h : onP a b c = true) : triB a p b c = true := by
  obtain ⟨h1, h2⟩ := xE.1 h
  have sc := eP a p b c
  have z : tr b a c = 0 := by rw [tr_ba a b c]; omega
  have e : tr a p b * tr a p b * dt c a b = -(tr a p c * tr p b c * dt a b b) := by
    unfold tr crs at h1 ⊢; unfold dt dot; grind
  have nn : 0 ≤ tr a p c * tr p b c := by
    rcases jU (tr a p c * tr p b c) 0 with q | q
    · exfalso
      have t1 : 0 < dt a b b := by
        rcases jU 0 (dt a b b) with k | k
        · exact k
        · exfalso
          have h3 := fU (b.1 - a.1)
          have h4 := fU (b.2 - a.2)
          unfold dt dot at k
          have h5 : (b.1 - a.1) * (b.1 - a.1) = 0 := by omega
          have h6 : (b.2 - a.2) * (b.2 - a.2) = 0 := by omega
          have h7 : b.1 - a.1 = 0 := by rcases Int.mul_eq_zero.1 h5 with q | q <;> exact q
          have h8 : b.2 - a.2 = 0 := by rcases Int.mul_eq_zero.1 h6 with q | q <;> exact q
          apply hS
          unfold tr crs
          rw [show b.1 = a.1 by omega, show b.2 = a.2 by omega]; grind
      have t2 : tr a p c * tr p b c * dt a b b < 0 := Int.mul_neg_of_neg_of_pos q t1
      have t3 : tr a p b * tr a p b * dt c a b ≤ 0 := Int.mul_nonpos_of_nonneg_of_nonpos (fU _) h2
      omega
    · exact q
  unfold triB
  rw [if_neg hS, z]
  simp only [Bool.or_eq_true, Bool.and_eq_true, decide_eq_true_eq, Int.le_refl, and_true]
  rcases jU (tr a p c) 0 with q | q
  · right
    refine ⟨by omega, ?_⟩
    rcases jU 0 (tr p b c) with k | k
    · have := Int.mul_neg_of_neg_of_pos q k; omega
    · exact k
  · rcases jU (tr p b c) 0 with k | k
    · right
      refine ⟨?_, by omega⟩
      rcases jU 0 (tr a p c) with j | j
      · have := Int.mul_neg_of_pos_of_neg j k; omega
      · exact j
    · left; exact ⟨q, k⟩
/-- three points on a line -/
theorem dt_line {c u v w : Int × Int} (h1 : tr c u w = 0) (h2 : tr c w v = 0) (hw : dt c w w ≠ 0) (a : 0 < dt c u w) (b : 0 < dt c w v) : 0 < dt c u v := by
  have e : dt c u w * dt c w v = dt c u v * dt c w w := by unfold tr crs at h1 h2; unfold dt dot; grind
  have p := Int.mul_pos a b
  have s : 0 ≤ dt c w w := by unfold dt dot; have := fU (w.1 - c.1); have := fU (w.2 - c.2); omega
  rcases jU 0 (dt c u v) with q | q
  · exact q
  · have := Int.mul_nonpos_of_nonpos_of_nonneg q s; omega
theorem mt_flip (a b c d : Int × Int) : mt b a c d = mt a b c d := qE2 ..
theorem sW (a b c d : Int × Int) : mt c d a b = mt a b c d := qE1 ..
theorem xG (a b c d : Int × Int) : mt a b d c = mt a b c d := by rw [← sW, mt_flip, sW]
theorem nC (a b p : Int × Int) : onP a b p = onP b a p := mZ ..
theorem onP_a (a b : Int × Int) : onP a b a = true := onb_a ..
theorem onP_b (a b : Int × Int) : onP a b b = true := onb_b ..
theorem mA {a b : Int × Int} (h : a ≠ b) : 0 < dt a b b := by
  rcases jU 0 (dt a b b) with k | k
  · exact k
  · exfalso
    have h3 := fU (b.1 - a.1)
    have h4 := fU (b.2 - a.2)
    unfold dt dot at k
    have h7 : b.1 - a.1 = 0 := by rcases Int.mul_eq_zero.1 (show (b.1 - a.1) * (b.1 - a.1) = 0 by omega) with q | q <;> exact q
    have h8 : b.2 - a.2 = 0 := by rcases Int.mul_eq_zero.1 (show (b.2 - a.2) * (b.2 - a.2) = 0 by omega) with q | q <;> exact q
    exact h (Prod.ext (by omega) (by omega))
theorem sY {a b p : Int × Int} (h : tr a b p = 0) (q : Int × Int) : tr p b q * dt a b b = tr a b q * dt b a p := by
  unfold tr crs at h ⊢; unfold dt dot; grind
theorem sZ {a b p : Int × Int} (h : tr a b p = 0) (q : Int × Int) : tr a p q * dt a b b = tr a b q * dt a b p := by
  unfold tr crs at h ⊢; unfold dt dot; grind
theorem dt_nz {a b p : Int × Int} (hab : a ≠ b) (hp : p ≠ b) (h : tr a b p = 0) : dt b a p ≠ 0 := by
  intro e
  have k : dt b a p * dt b a p + tr a b p * tr a b p = dt b p p * dt a b b := by unfold tr crs dt dot; grind
  rw [e, h] at k
  have := Int.mul_pos (mA (a := b) (b := p) (Ne.symm hp)) (mA hab)
  omega
theorem dt_nz' {a b p : Int × Int} (hab : a ≠ b) (hp : p ≠ a) (h : tr a b p = 0) : dt a b p ≠ 0 := by
  have := dt_nz (a := b) (b := a) (p := p) (Ne.symm hab) hp (by rw [tr_ba a b p]; omega)
  exact this
theorem qA5 {x y X Y N D : Int} (hN : 0 < N) (hD : D ≠ 0) (h : X * Y < 0) (e1 : x * N = X * D) (e2 : y * N = Y * D) : x * y < 0 := by
  have k : x * y * (N * N) = X * Y * (D * D) := by grind
  have dd : 0 < D * D := by
    rcases Int.lt_or_gt_of_ne hD with q | q
    · exact Int.mul_pos_of_neg_of_neg q q
    · exact Int.mul_pos q q
  have nn : 0 < N * N := Int.mul_pos hN hN
  have t := Int.mul_neg_of_neg_of_pos h dd
  rcases jU (x * y) 0 with q | q
  · exact q
  · have := Int.mul_nonneg q (show 0 ≤ N * N by omega); omega
theorem flat_on {a b p c : Int × Int} (hab : a ≠ b) (hp : onP a b p = true) (hc : onP a b c = true) : onP a p c = true ∨ onP p b c = true := by
  obtain ⟨p1, p2⟩ := xE.1 hp
  obtain ⟨c1, c2⟩ := xE.1 hc
  have N := mA hab
  have z1 : tr a p c = 0 := by
    have := sZ p1 c
    rw [c1, Int.zero_mul] at this
    rcases Int.mul_eq_zero.1 this with q | q <;> omega
  have z2 : tr p b c = 0 := by
    have := sY p1 c
    rw [c1, Int.zero_mul] at this
    rcases Int.mul_eq_zero.1 this with q | q <;> omega
  by_cases e : c = p
  · subst e; exact .inl (onP_b a c)
  · rcases jU 0 (dt c a p) with q | q
    · rcases jU 0 (dt c p b) with r | r
      · exfalso
        have w1 : tr c a p = tr a p c := by unfold tr crs; grind
        have w2 : tr c p b = tr p b c := by unfold tr crs; grind
        have w3 := mA e
        have := dt_line (c := c) (u := a) (v := b) (w := p) (by omega) (by omega) (by omega) q r
        omega
      · exact .inr (xE.2 ⟨z2, r⟩)
    · exact .inl (xE.2 ⟨z1, q⟩)
theorem qDJ {a p b c d : Int × Int} (hab : a ≠ b) (hpa : p ≠ a) (hpb : p ≠ b) (hS : tr a b p = 0) (h : pp a b c d = true) :
    pp p b c d = true ∨ pp a p c d = true ∨ onP c d p = true := by
  obtain ⟨hz, hF⟩ := bC.1 h
  have N := mA hab
  have y := qA5 N (dt_nz hab hpb hS) hz (sY hS c) (sY hS d)
  have x := qA5 N (dt_nz' hab hpa hS) hz (sZ hS c) (sZ hS d)
  rcases Int.lt_trichotomy (tr c d p) 0 with k | k | k
  · rcases jU 0 (tr c d b) with q | q
    · exact .inl (bC.2 ⟨y, Int.mul_neg_of_neg_of_pos k q⟩)
    · have hb : tr c d b ≠ 0 := fun e => by rw [e] at hF; simp at hF
      have ha : 0 < tr c d a := by
        rcases jU 0 (tr c d a) with r | r
        · exact r
        · have := Int.mul_nonneg_of_nonpos_of_nonpos r q; omega
      exact .inr (.inl (bC.2 ⟨x, Int.mul_neg_of_pos_of_neg ha k⟩))
  · exact .inr (.inr (qAB k y))
  · rcases jU (tr c d b) 0 with q | q
    · exact .inl (bC.2 ⟨y, Int.mul_neg_of_pos_of_neg k q⟩)
    · have hb : tr c d b ≠ 0 := fun e => by rw [e] at hF; simp at hF
      have ha : tr c d a < 0 := by
        rcases jU (tr c d a) 0 with r | r
        · exact r
        · have := Int.mul_nonneg r q; omega
      exact .inr (.inl (bC.2 ⟨x, Int.mul_neg_of_neg_of_pos ha k⟩))
theorem tr_apb (a p b : Int × Int) : tr a p b = -(tr a b p) := by unfold tr crs; grind
/-- An edge that meets neither side of the triangle, and whose ends lie outside, does not meet the third side. -/
theorem pasch {a p b c d : Int × Int} (hab : a ≠ b) (hpa : p ≠ a) (hpb : p ≠ b) (hf : tr a p b = 0 → onP a b p = true) (hc : triB a p b c = false) (hd : triB a p b d = false) (h1 : mt a p c d = 0) (h2 : mt p b c d = 0) : mt a b c d = 0 := by
  obtain ⟨p1, q1, q2, q3, q4⟩ := cU.1 h1
  obtain ⟨p2, _, r2, r3, r4⟩ := cU.1 h2
  have on : ∀ z, triB a p b z = false → onP a p z = false → onP p b z = false → onP a b z = false := by
    intro z hz k1 k2
    rw [Bool.eq_false_iff]; intro k
    by_cases hS : tr a p b = 0
    · rcases flat_on hab (hf hS) k with q | q
      · rw [k1] at q; cases q
      · rw [k2] at q; cases q
    · rw [on_tri hS k] at hz; cases hz
  refine cU.2 ⟨?_, q1, r2, on c hc q3 r3, on d hd q4 r4⟩
  rw [Bool.eq_false_iff]; intro k
  by_cases hS : tr a p b = 0
  · rcases qDJ hab hpa hpb (by rw [tr_apb] at hS; omega) k with q | q | q
    · rw [p2] at q; cases q
    · rw [p1] at q; cases q
    · rw [q2] at q; cases q
  · rcases sS hS hc hd k with ⟨q, r⟩ | ⟨q, r⟩ | ⟨q, r, s⟩
    · have := bC.2 (⟨r, q⟩ : tr p b c * tr p b d < 0 ∧ tr c d p * tr c d b < 0)
      rw [p2] at this; cases this
    · have := bC.2 (⟨r, q⟩ : tr a p c * tr a p d < 0 ∧ tr c d a * tr c d p < 0)
      rw [p1] at this; cases this
    · have := qAB q s
      rw [q2] at this; cases this
/-- two edges from one point -/
theorem mt_share {a b d : Int × Int} (h1 : onP a d b = false) (h2 : onP a b d = false) : mt a b a d = 1 := by
  have e : shr a.1 a.2 b.1 b.2 a.1 a.2 d.1 d.2 = [(a.1, a.2)] := by
    unfold shr
    have s1 : addp [] a.1 a.2 a.1 a.2 d.1 d.2 = [(a.1, a.2)] := q9 (by unfold addb; rw [onb_a]; rfl)
    have s2 : addp [(a.1, a.2)] b.1 b.2 a.1 a.2 d.1 d.2 = [(a.1, a.2)] := q8 (by unfold addb; rw [show onb a.1 a.2 d.1 d.2 b.1 b.2 = false from h1]; rfl)
    have s3 : addp [(a.1, a.2)] a.1 a.2 a.1 a.2 b.1 b.2 = [(a.1, a.2)] := q8 (by unfold addb; rw [(nN ..).2 (by simp)]; simp)
    have s4 : addp [(a.1, a.2)] d.1 d.2 a.1 a.2 b.1 b.2 = [(a.1, a.2)] := q8 (by unfold addb; rw [show onb a.1 a.2 b.1 b.2 d.1 d.2 = false from h2]; rfl)
    rw [s1, s2, s3, s4]
  exact meetN_one e
theorem pp_share (a b d : Int × Int) : pp a b a d = false := by
  rw [Bool.eq_false_iff]; intro h
  have := (bC.1 h).1
  rw [show tr a b a = 0 by unfold tr crs; grind, Int.zero_mul] at this; omega
theorem cE {a b d : Int × Int} (h : mt a b a d = 1) (hb : a ≠ b) (hd : a ≠ d) : onP a d b = false ∧ onP a b d = false := by
  have two : ∀ z : Int × Int, z ≠ a → z ∈ shr a.1 a.2 b.1 b.2 a.1 a.2 d.1 d.2 → False := by
    intro z hz hm
    have ha : a ∈ shr a.1 a.2 b.1 b.2 a.1 a.2 d.1 d.2 := mem_shr.2 (.inl ⟨rfl, onb_a ..⟩)
    unfold mt qX at h
    rw [if_neg (by rw [show prp a.1 a.2 b.1 b.2 a.1 a.2 d.1 d.2 = false from pp_share a b d]; decide)] at h
    have hl : (shr a.1 a.2 b.1 b.2 a.1 a.2 d.1 d.2).length = 1 := by unfold mn at h; split at h <;> omega
    obtain ⟨y, hy⟩ := List.length_eq_one_iff.1 hl
    rw [hy] at ha hm
    simp only [List.mem_singleton] at ha hm
    exact hz (hm.trans ha.symm)
  constructor
  · rw [Bool.eq_false_iff]; intro k
    exact two b (Ne.symm hb) (mem_shr.2 (.inr (.inl ⟨rfl, k⟩)))
  · rw [Bool.eq_false_iff]; intro k
    exact two d (Ne.symm hd) (mem_shr.2 (.inr (.inr (.inr ⟨rfl, k⟩))))
/-- An edge from the first corner that meets the first side there alone and the second side not at all meets the third side there alone. -/
theorem mW {a p b d : Int × Int} (hab : a ≠ b) (hpa : p ≠ a) (hd0 : a ≠ d) (hf : tr a p b = 0 → onP a b p = true) (hd : triB a p b d = false) (h1 : mt a p a d = 1) (h2 : mt p b a d = 0) : mt a b a d = 1 := by
  obtain ⟨_, _, r2, _, r4⟩ := cU.1 h2
  have o := cE h1 (Ne.symm hpa) hd0
  refine mt_share r2 ?_
  rw [Bool.eq_false_iff]; intro k
  by_cases hS : tr a p b = 0
  · rcases flat_on hab (hf hS) k with q | q
    · rw [o.2] at q; cases q
    · rw [r4] at q; cases q
  · rw [on_tri hS k] at hd; cases hd
theorem tri_rev (a p b q : Int × Int) : triB b p a q = triB a p b q := by
  unfold triB
  have e1 : tr b p a = -(tr a p b) := by unfold tr crs; grind
  have e2 : tr b p q = -(tr p b q) := by unfold tr crs; grind
  have e3 : tr p a q = -(tr a p q) := by unfold tr crs; grind
  have e4 : tr a b q = -(tr b a q) := by unfold tr crs; grind
  rw [e1, e2, e3, e4]
  by_cases h : tr a p b = 0
  · rw [if_pos h, if_pos (by omega), nC b p q, nC p a q, Bool.or_comm]
  · rw [if_neg h, if_neg (by omega), Bool.eq_iff_iff]
    simp only [Bool.or_eq_true, Bool.and_eq_true, decide_eq_true_eq]
    omega
def g2 (x : List (Int × Int)) (k : Nat) : Int × Int := x.getD k (0, 0)
/-- the ends of an edge that are ends of its line -/
def outr (x : List (Int × Int)) (k : Nat) : List (Int × Int) := (if k = 1 then [g2 x 0] else []) ++ (if k + 1 = x.length then [g2 x k] else [])
def EndS (x : List (Int × Int)) (k : Nat) (y : List (Int × Int)) (m : Nat) : Prop := ∃ p, p ∈ outr x k ∧ p ∈ outr y m
def mtE (x : List (Int × Int)) (k : Nat) (y : List (Int × Int)) (m : Nat) : Int := mt (g2 x (k - 1)) (g2 x k) (g2 y (m - 1)) (g2 y m)
/-- two edges have only points in common that they may have; same: they are of one line -/
def Perm (same : Prop) (x : List (Int × Int)) (k : Nat) (y : List (Int × Int)) (m : Nat) : Prop := mtE x k y m = 0 ∨ (mtE x k y m = 1 ∧ ((same ∧ (m + 1 = k ∨ k + 1 = m)) ∨ EndS x k y m))
theorem mtE_swap (x : List (Int × Int)) (k : Nat) (y : List (Int × Int)) (m : Nat) : mtE y m x k = mtE x k y m := sW ..
theorem Perm.symm {s s' : Prop} {x y : List (Int × Int)} {k m : Nat} (h : Perm s x k y m) (hs : s → s') : Perm s' y m x k := by
  unfold Perm at *
  rw [mtE_swap x k y m]
  rcases h with h | ⟨h, h'⟩
  · exact .inl h
  · refine .inr ⟨h, ?_⟩
    rcases h' with ⟨q, r⟩ | ⟨p, q, r⟩
    · exact .inl ⟨hs q, r.symm⟩
    · exact .inr ⟨p, r, q⟩
/-- edge k of line i, and edge m of line j -/
structure Lines (X : List (List (Int × Int))) : Prop where
  size : ∀ i, i < X.length → 2 ≤ (X.getD i []).length
  nd : ∀ i k, i < X.length → 1 ≤ k → k < (X.getD i []).length → g2 (X.getD i []) (k - 1) ≠ g2 (X.getD i []) k
  pr : ∀ i k j m, i < X.length → j < X.length → 1 ≤ k → k < (X.getD i []).length → 1 ≤ m → m < (X.getD j []).length → (i ≠ j ∨ k ≠ m) → Perm (i = j) (X.getD i []) k (X.getD j []) m
/-- a line without its point t -/
def del (x : List (Int × Int)) (t : Nat) : List (Int × Int) := x.eraseIdx t
theorem eJ {x : List (Int × Int)} {t : Nat} (h : t < x.length) : (del x t).length + 1 = x.length := by
  unfold del; rw [List.length_eraseIdx_of_lt h]; omega
theorem del_get (x : List (Int × Int)) (t k : Nat) : g2 (del x t) k = if k < t then g2 x k else g2 x (k + 1) := by
  unfold g2 del
  rw [List.getD_eq_getElem?_getD, List.getElem?_eraseIdx]
  split <;> rfl
theorem outr_mem {x : List (Int × Int)} {k : Nat} {p : Int × Int} : p ∈ outr x k ↔ (k = 1 ∧ p = g2 x 0) ∨ (k + 1 = x.length ∧ p = g2 x k) := by
  unfold outr
  rw [List.mem_append]
  constructor
  · rintro (h | h)
    · split at h
      · rename_i e; exact .inl ⟨e, by simpa using h⟩
      · cases h
    · split at h
      · rename_i e; exact .inr ⟨e, by simpa using h⟩
      · cases h
  · rintro (⟨e, h⟩ | ⟨e, h⟩)
    · left; rw [if_pos e]; simp [h]
    · right; rw [if_pos e]; simp [h]
theorem outr_ends {x : List (Int × Int)} {k : Nat} {p : Int × Int} (h : p ∈ outr x k) : p = g2 x (k - 1) ∨ p = g2 x k := by
  rcases outr_mem.1 h with ⟨e, h⟩ | ⟨_, h⟩
  · left; rw [h, e]
  · exact .inr h
/-- the old number of an edge that is not new -/
def oldE (t k : Nat) : Nat := if k < t then k else k + 1
theorem dF {x : List (Int × Int)} {t k : Nat} (ht : 1 ≤ t) (hk : 1 ≤ k) (hn : k ≠ t) : g2 (del x t) (k - 1) = g2 x (oldE t k - 1) ∧ g2 (del x t) k = g2 x (oldE t k) := by
  unfold oldE
  rw [del_get, del_get]
  by_cases h : k < t
  · rw [if_pos h, if_pos h, if_pos (by omega)]; exact ⟨rfl, rfl⟩
  · rw [if_neg h, if_neg h, if_neg (by omega)]
    exact ⟨by rw [show k - 1 + 1 = k + 1 - 1 by omega], rfl⟩
theorem qAC {x : List (Int × Int)} {t k : Nat} (ht : 1 ≤ t) (htl : t + 1 < x.length) (hk : 1 ≤ k) (hn : k ≠ t) (p : Int × Int) : p ∈ outr (del x t) k ↔ p ∈ outr x (oldE t k) := by
  have hl := eJ (x := x) (t := t) (by omega)
  rw [outr_mem, outr_mem, (dF ht hk hn).2, del_get, if_pos (by omega)]
  unfold oldE
  by_cases h : k < t
  · rw [if_pos h]
    constructor
    · rintro (⟨e, q⟩ | ⟨e, q⟩)
      · exact .inl ⟨e, q⟩
      · omega
    · rintro (⟨e, q⟩ | ⟨e, q⟩)
      · exact .inl ⟨e, q⟩
      · omega
  · rw [if_neg h]
    constructor
    · rintro (⟨e, q⟩ | ⟨e, q⟩)
      · omega
      · exact .inr ⟨by omega, q⟩
    · rintro (⟨e, q⟩ | ⟨e, q⟩)
      · omega
      · exact .inr ⟨by omega, q⟩
theorem qAD {x : List (Int × Int)} {t : Nat} (ht : 1 ≤ t) (htl : t + 1 < x.length) (p : Int × Int) : p ∈ outr (del x t) t ↔ (t = 1 ∧ p = g2 x (t - 1)) ∨ (t + 2 = x.length ∧ p = g2 x (t + 1)) := by
  have hl := eJ (x := x) (t := t) (by omega)
  rw [outr_mem, del_get, del_get, if_pos (by omega), if_neg (by omega)]
  constructor
  · rintro (⟨e, q⟩ | ⟨e, q⟩)
    · exact .inl ⟨e, by rw [q, e]⟩
    · exact .inr ⟨by omega, q⟩
  · rintro (⟨e, q⟩ | ⟨e, q⟩)
    · exact .inl ⟨e, by rw [q, e]⟩
    · exact .inr ⟨by omega, q⟩
/-- three points of a line that do not fold back -/
theorem mid_on {a p b : Int × Int} (h : tr a p b = 0) (h1 : onP p b a = false) (h2 : onP p a b = false) : onP a b p = true := by
  have e0 : tr a b p = 0 := by rw [tr_apb] at h; omega
  have e1 : tr p b a = 0 := by have : tr p b a = tr a p b := by unfold tr crs; grind
                               omega
  have e2 : tr p a b = 0 := by have : tr p a b = -(tr a p b) := by unfold tr crs; grind
                               omega
  refine xE.2 ⟨e0, ?_⟩
  have n1 : 0 < dt a p b := by
    rcases jU 0 (dt a p b) with q | q
    · exact q
    · rw [xE.2 ⟨e1, q⟩] at h1; cases h1
  have n2 : 0 < dt b p a := by
    rcases jU 0 (dt b p a) with q | q
    · exact q
    · rw [xE.2 ⟨e2, q⟩] at h2; cases h2
  rcases jU 0 (dt p a b) with q | q
  · exfalso
    have k : dt p a b * dt p a b + tr a p b * tr a p b = dt p a a * dt p b b := by unfold tr crs dt dot; grind
    have s1 : dt p a a = dt p a b + dt a p b := by unfold dt dot; grind
    have s2 : dt p b b = dt p a b + dt b p a := by unfold dt dot; grind
    rw [h, s1, s2] at k
    have t1 := Int.mul_pos q n2
    have t2 := Int.mul_pos n1 q
    have t3 := Int.mul_pos n1 n2
    have t4 : (dt p a b + dt a p b) * (dt p a b + dt b p a) = dt p a b * dt p a b + dt p a b * dt b p a + dt a p b * dt p a b + dt a p b * dt b p a := by grind
    omega
  · exact q
theorem xA {a b c d : Int × Int} (h : mt a b c d = 0) : c ≠ a ∧ c ≠ b ∧ d ≠ a ∧ d ≠ b := by
  obtain ⟨_, h1, h2, h3, h4⟩ := cU.1 h
  refine ⟨?_, ?_, ?_, ?_⟩ <;> rintro rfl
  · rw [onP_a] at h1; cases h1
  · rw [onP_a] at h2; cases h2
  · rw [onP_b] at h1; cases h1
  · rw [onP_b] at h2; cases h2
theorem nE {a b : Int × Int} (h : a ≠ b) : mt a b a b ≠ 1 := fun e => by
  have := (cE e h h).1
  rw [onP_b] at this; cases this
section
variable {X : List (List (Int × Int))} {i t : Nat} {x : List (Int × Int)} {a p b : Int × Int}
theorem qAE (h : Lines X) (hi : i < X.length) (hx : X.getD i [] = x) (ht : 1 ≤ t) (htl : t + 1 < x.length) (ha : g2 x (t - 1) = a) (hp : g2 x t = p) (hb : g2 x (t + 1) = b) (hab : a ≠ b)
    (hv : ∀ j m, j < X.length → m < (X.getD j []).length → g2 (X.getD j []) m = a ∨ g2 (X.getD j []) m = b ∨ g2 (X.getD j []) m = p ∨ triB a p b (g2 (X.getD j []) m) = false)
    (he : ∀ j m, j < X.length → 1 ≤ m → m < (X.getD j []).length → ¬ (g2 (X.getD j []) (m - 1) = a ∧ g2 (X.getD j []) m = b) ∧ ¬ (g2 (X.getD j []) (m - 1) = b ∧ g2 (X.getD j []) m = a))
    {j m : Nat} (hj : j < X.length) (hm : 1 ≤ m) (hml : m < (X.getD j []).length) (hd : i ≠ j ∨ (m ≠ t ∧ m ≠ t + 1)) :
    mt a b (g2 (X.getD j []) (m - 1)) (g2 (X.getD j []) m) = 0 ∨ (mt a b (g2 (X.getD j []) (m - 1)) (g2 (X.getD j []) m) = 1 ∧
      ((i = j ∧ (m + 1 = t ∨ t + 2 = m)) ∨ (t = 1 ∧ a ∈ outr (X.getD j []) m) ∨ (t + 2 = x.length ∧ b ∈ outr (X.getD j []) m))) := by
  have P1 := h.pr i t j m hi hj ht (by rw [hx]; omega) hm hml (by omega)
  have P2 := h.pr i (t + 1) j m hi hj (by omega) (by rw [hx]; omega) hm hml (by omega)
  have P0 := h.pr i t i (t + 1) hi hi ht (by rw [hx]; omega) (by omega) (by rw [hx]; omega) (.inr (by omega))
  have n1 := h.nd i t hi ht (by rw [hx]; omega)
  have n2 := h.nd i (t + 1) hi (by omega) (by rw [hx]; omega)
  have n3 := h.nd j m hj hm hml
  rw [hx] at P0 P1 P2 n1 n2
  rw [Nat.add_sub_cancel] at n2
  rw [ha, hp] at n1
  rw [hp, hb] at n2
  have vc := hv j (m - 1) hj (by omega)
  have vd := hv j m hj hml
  have ve := he j m hj hm hml
  -- edges of one line, told by numbers
  have sd : i = j → m + 1 = t → g2 (X.getD j []) m = a := fun e1 e2 => by rw [← e1, hx, ← ha]; congr 1; omega
  have sc : i = j → t + 2 = m → g2 (X.getD j []) (m - 1) = b := fun e1 e2 => by rw [← e1, hx, ← hb]; congr 1; omega
  have ends := fun q (hq : q ∈ outr (X.getD j []) m) => outr_ends hq
  generalize hy : X.getD j [] = y at *
  unfold Perm mtE at P0 P1 P2
  rw [Nat.add_sub_cancel] at P0 P2
  rw [ha, hp, hb] at P0
  rw [ha, hp] at P1
  rw [hp, hb] at P2
  generalize hc : g2 y (m - 1) = c at *
  generalize hd' : g2 y m = d at *
  have o1 : ∀ q, q ∈ outr x t → t = 1 ∧ q = a := fun q hq => by
    rcases outr_mem.1 hq with ⟨e, k⟩ | ⟨e, k⟩
    · exact ⟨e, by rw [k, ← ha, e]⟩
    · omega
  have o2 : ∀ q, q ∈ outr x (t + 1) → t + 2 = x.length ∧ q = b := fun q hq => by
    rcases outr_mem.1 hq with ⟨e, k⟩ | ⟨e, k⟩
    · omega
    · exact ⟨e, by rw [k, hb]⟩
  have hf : tr a p b = 0 → onP a b p = true := by
    intro z
    have one : mt p a p b = 1 := by
      rw [mt_flip]
      rcases P0 with q | q
      · exact absurd rfl (xA q).2.1
      · exact q.1
    have := cE one (Ne.symm n1) n2
    exact mid_on z this.1 this.2
  -- what the two old edges say
  have q1 : mt a p c d = 0 ∨ (mt a p c d = 1 ∧ ((i = j ∧ m + 1 = t ∧ d = a) ∨ (t = 1 ∧ a ∈ outr y m ∧ (a = c ∨ a = d)))) := by
    rcases P1 with q | ⟨q, ⟨e1, e2 | e2⟩ | ⟨r, r1, r2⟩⟩
    · exact .inl q
    · exact .inr ⟨q, .inl ⟨e1, e2, sd e1 e2⟩⟩
    · omega
    · obtain ⟨e, rfl⟩ := o1 r r1
      exact .inr ⟨q, .inr ⟨e, r2, ends _ r2⟩⟩
  have q2 : mt p b c d = 0 ∨ (mt p b c d = 1 ∧ ((i = j ∧ t + 2 = m ∧ c = b) ∨ (t + 2 = x.length ∧ b ∈ outr y m ∧ (b = c ∨ b = d)))) := by
    rcases P2 with q | ⟨q, ⟨e1, e2 | e2⟩ | ⟨r, r1, r2⟩⟩
    · exact .inl q
    · omega
    · exact .inr ⟨q, .inl ⟨e1, by omega, sc e1 (by omega)⟩⟩
    · obtain ⟨e, rfl⟩ := o2 r r1
      exact .inr ⟨q, .inr ⟨e, r2, ends _ r2⟩⟩
  clear P0 P1 P2
  have np : c ≠ p ∧ d ≠ p := by
    constructor
    · intro e; subst e
      rcases q1 with q | ⟨q, ⟨_, _, k⟩ | ⟨_, _, k | k⟩⟩
      · exact (xA q).2.1 rfl
      · subst k; rw [mt_flip] at q; exact nE (Ne.symm n1) q
      · exact n1 k
      · subst k; rw [mt_flip] at q; exact nE (Ne.symm n1) q
    · intro e; subst e
      rcases q1 with q | ⟨q, ⟨_, _, k⟩ | ⟨_, _, k | k⟩⟩
      · exact (xA q).2.2.2 rfl
      · exact n1 k.symm
      · subst k; exact nE n1 q
      · exact n1 k
  have tc : c = a ∨ c = b ∨ triB a p b c = false := by rcases vc with k | k | k | k <;> simp_all
  have td : d = a ∨ d = b ∨ triB a p b d = false := by rcases vd with k | k | k | k <;> simp_all
  by_cases ca : c = a
  · subst ca
    have d1 : d ≠ c := Ne.symm n3
    have d2 : d ≠ b := fun e => ve.1 ⟨rfl, e⟩
    have m1 : mt c p c d = 1 := q1.elim (fun q => absurd rfl (xA q).1) (fun q => q.1)
    have m2 : mt p b c d = 0 := by
      rcases q2 with q | ⟨_, ⟨_, _, k⟩ | ⟨_, _, k | k⟩⟩
      · exact q
      · exact absurd k hab
      · exact absurd k.symm hab
      · exact absurd k.symm d2
    have t3 : triB c p b d = false := (td.resolve_left d1).resolve_left d2
    refine .inr ⟨mW hab (Ne.symm n1) n3 hf t3 m1 m2, ?_⟩
    rcases q1 with q | ⟨_, ⟨_, _, k⟩ | ⟨k1, k2, _⟩⟩
    · exact absurd rfl (xA q).1
    · exact absurd k d1
    · exact .inr (.inl ⟨k1, k2⟩)
  by_cases da : d = a
  · subst da
    have c2 : c ≠ b := fun e => ve.2 ⟨e, rfl⟩
    have m1 : mt d p d c = 1 := by rw [xG]; exact q1.elim (fun q => absurd rfl (xA q).2.2.1) (fun q => q.1)
    have m2 : mt p b d c = 0 := by
      rw [xG]
      rcases q2 with q | ⟨_, ⟨_, _, k⟩ | ⟨_, _, k | k⟩⟩
      · exact q
      · exact absurd k c2
      · exact absurd k.symm c2
      · exact absurd k.symm hab
    have t3 : triB d p b c = false := (tc.resolve_left ca).resolve_left c2
    refine .inr ⟨by rw [← xG]; exact mW hab (Ne.symm n1) (Ne.symm n3) hf t3 m1 m2, ?_⟩
    rcases q1 with q | ⟨_, ⟨k1, k2, _⟩ | ⟨k1, k2, _⟩⟩
    · exact absurd rfl (xA q).2.2.1
    · exact .inl ⟨k1, .inl k2⟩
    · exact .inr (.inl ⟨k1, k2⟩)
  have hs' : tr b p a = -(tr a p b) := by unfold tr crs; grind
  have hf' : tr b p a = 0 → onP b a p = true := fun z => by rw [nC]; exact hf (by omega)
  by_cases cb : c = b
  · subst cb
    have m1 : mt c p c d = 1 := by rw [mt_flip]; exact q2.elim (fun q => absurd rfl (xA q).2.1) (fun q => q.1)
    have m2 : mt p a c d = 0 := by
      rw [mt_flip]
      rcases q1 with q | ⟨_, ⟨_, _, k⟩ | ⟨_, _, k | k⟩⟩
      · exact q
      · exact absurd k da
      · exact absurd k.symm ca
      · exact absurd k.symm da
    have t3 : triB c p a d = false := by rw [tri_rev]; exact (td.resolve_left da).resolve_left (Ne.symm n3)
    refine .inr ⟨by rw [← mt_flip]; exact mW (Ne.symm hab) n2 n3 hf' t3 m1 m2, ?_⟩
    rcases q2 with q | ⟨_, ⟨k1, k2, _⟩ | ⟨k1, k2, _⟩⟩
    · exact absurd rfl (xA q).2.1
    · exact .inl ⟨k1, .inr k2⟩
    · exact .inr (.inr ⟨k1, k2⟩)
  by_cases db : d = b
  · subst db
    have m1 : mt d p d c = 1 := by rw [xG, mt_flip]; exact q2.elim (fun q => absurd rfl (xA q).2.2.2) (fun q => q.1)
    have m2 : mt p a d c = 0 := by
      rw [xG, mt_flip]
      rcases q1 with q | ⟨_, ⟨_, _, k⟩ | ⟨_, _, k | k⟩⟩
      · exact q
      · exact absurd k da
      · exact absurd k.symm ca
      · exact absurd k.symm da
    have t3 : triB d p a c = false := by rw [tri_rev]; exact (tc.resolve_left ca).resolve_left cb
    refine .inr ⟨by rw [← xG, ← mt_flip]; exact mW (Ne.symm hab) n2 (Ne.symm n3) hf' t3 m1 m2, ?_⟩
    rcases q2 with q | ⟨_, ⟨k1, k2, k⟩ | ⟨k1, k2, _⟩⟩
    · exact absurd rfl (xA q).2.2.2
    · exact absurd k cb
    · exact .inr (.inr ⟨k1, k2⟩)
  · left
    refine pasch hab (Ne.symm n1) n2 hf ((tc.resolve_left ca).resolve_left cb) ((td.resolve_left da).resolve_left db) ?_ ?_
    · rcases q1 with q | ⟨_, ⟨_, _, k⟩ | ⟨_, _, k | k⟩⟩
      · exact q
      · exact absurd k da
      · exact absurd k.symm ca
      · exact absurd k.symm da
    · rcases q2 with q | ⟨_, ⟨_, _, k⟩ | ⟨_, _, k | k⟩⟩
      · exact q
      · exact absurd k cb
      · exact absurd k.symm cb
      · exact absurd k.symm db
end
theorem wN {X : List (List (Int × Int))} {i j : Nat} {y : List (Int × Int)} (hi : i < X.length) : (X.set i y).getD j [] = if i = j then y else X.getD j [] := by
  rw [List.getD_eq_getElem?_getD, List.getElem?_set]
  by_cases h : i = j
  · subst h; rw [if_pos rfl, if_pos rfl, if_pos hi]; rfl
  · rw [if_neg h, if_neg h, ← List.getD_eq_getElem?_getD]
theorem lines_del {X : List (List (Int × Int))} {i t : Nat} {x : List (Int × Int)} {a p b : Int × Int} (h : Lines X) (hi : i < X.length) (hx : X.getD i [] = x) (ht : 1 ≤ t) (htl : t + 1 < x.length) (ha : g2 x (t - 1) = a) (hp : g2 x t = p) (hb : g2 x (t + 1) = b) (hab : a ≠ b)
    (hv : ∀ j m, j < X.length → m < (X.getD j []).length → g2 (X.getD j []) m = a ∨ g2 (X.getD j []) m = b ∨ g2 (X.getD j []) m = p ∨ triB a p b (g2 (X.getD j []) m) = false)
    (he : ∀ j m, j < X.length → 1 ≤ m → m < (X.getD j []).length → ¬ (g2 (X.getD j []) (m - 1) = a ∧ g2 (X.getD j []) m = b) ∧ ¬ (g2 (X.getD j []) (m - 1) = b ∧ g2 (X.getD j []) m = a)) :
    Lines (X.set i (del x t)) := by
  have hl := eJ (x := x) (t := t) (by omega)
  have hL : (X.set i (del x t)).length = X.length := List.length_set
  have old : ∀ j, i ≠ j → (X.set i (del x t)).getD j [] = X.getD j [] := fun j e => by rw [wN hi, if_neg e]
  have cur : (X.set i (del x t)).getD i [] = del x t := by rw [wN hi, if_pos rfl]
  have oe : ∀ k, k ≠ t → 1 ≤ k → k < (del x t).length → 1 ≤ oldE t k ∧ oldE t k < x.length ∧ oldE t k ≠ t ∧ oldE t k ≠ t + 1 := fun k h1 h2 h3 => by unfold oldE; split <;> omega
  -- the new edge beside another one
  have nw : ∀ j m, j < X.length → 1 ≤ m → m < ((X.set i (del x t)).getD j []).length → (i ≠ j ∨ t ≠ m) → Perm (i = j) (del x t) t ((X.set i (del x t)).getD j []) m := by
    intro j m hj hm hml hd
    have n1 : g2 (del x t) (t - 1) = a := by rw [del_get, if_pos (by omega), ha]
    have n2 : g2 (del x t) t = b := by rw [del_get, if_neg (by omega), hb]
    have fin : ∀ (y : List (Int × Int)) (m0 : Nat), g2 ((X.set i (del x t)).getD j []) (m - 1) = g2 y (m0 - 1) → g2 ((X.set i (del x t)).getD j []) m = g2 y m0 → (∀ q, q ∈ outr y m0 → q ∈ outr ((X.set i (del x t)).getD j []) m) →
        ((i = j ∧ (m0 + 1 = t ∨ t + 2 = m0)) → (m + 1 = t ∨ t + 1 = m)) →
        (mt a b (g2 y (m0 - 1)) (g2 y m0) = 0 ∨ (mt a b (g2 y (m0 - 1)) (g2 y m0) = 1 ∧ ((i = j ∧ (m0 + 1 = t ∨ t + 2 = m0)) ∨ (t = 1 ∧ a ∈ outr y m0) ∨ (t + 2 = x.length ∧ b ∈ outr y m0)))) → Perm (i = j) (del x t) t ((X.set i (del x t)).getD j []) m := by
      intro y m0 e1 e2 e3 e4 r
      unfold Perm mtE
      rw [n1, n2, e1, e2]
      rcases r with r | ⟨r, r'⟩
      · exact .inl r
      · refine .inr ⟨r, ?_⟩
        rcases r' with q | ⟨q, q'⟩ | ⟨q, q'⟩
        · exact .inl ⟨q.1, e4 q⟩
        · exact .inr ⟨a, (qAD ht htl a).2 (.inl ⟨q, ha.symm⟩), e3 a q'⟩
        · exact .inr ⟨b, (qAD ht htl b).2 (.inr ⟨q, hb.symm⟩), e3 b q'⟩
    by_cases e : i = j
    · subst e
      have hmt : m ≠ t := fun q => hd.elim (fun k => k rfl) (fun k => k q.symm)
      rw [cur] at hml
      obtain ⟨o1, o2, o3, o4⟩ := oe m hmt hm hml
      obtain ⟨g1, g2'⟩ := dF (x := x) ht hm hmt
      refine fin x (oldE t m) (by rw [cur]; exact g1) (by rw [cur]; exact g2') (fun q hq => by rw [cur]; exact (qAC ht htl hm hmt q).2 hq) (fun q => by have := q.2; unfold oldE at this; split at this <;> omega) ?_
      have := qAE h hi hx ht htl ha hp hb hab hv he (j := i) (m := oldE t m) hi o1 (by rw [hx]; exact o2) (.inr ⟨o3, o4⟩)
      rw [hx] at this; exact this
    · have hml' := hml
      rw [old j e] at hml'
      exact fin (X.getD j []) m (by rw [old j e]) (by rw [old j e]) (fun q hq => by rw [old j e]; exact hq) (fun q => absurd q.1 e) (qAE h hi hx ht htl ha hp hb hab hv he hj hm hml' (.inl e))
  refine ⟨fun j hj => ?_, fun j k hj hk hkl => ?_, fun j k j' m hj hj' hk hkl hm hml hd => ?_⟩
  · rw [hL] at hj
    by_cases e : i = j
    · subst e; rw [cur]; omega
    · rw [old j e]; exact h.size j hj
  · rw [hL] at hj
    by_cases e : i = j
    · subst e
      rw [cur] at hkl ⊢
      by_cases hkt : k = t
      · subst hkt
        rw [del_get, del_get, if_pos (by omega), if_neg (by omega), ha, hb]; exact hab
      · obtain ⟨o1, o2, _⟩ := oe k hkt hk hkl
        obtain ⟨g1, g2'⟩ := dF (x := x) ht hk hkt
        rw [g1, g2']
        have := h.nd i (oldE t k) hi o1 (by rw [hx]; exact o2)
        rw [hx] at this; exact this
    · rw [old j e] at hkl ⊢; exact h.nd j k hj hk hkl
  · rw [hL] at hj hj'
    by_cases n1 : i = j ∧ k = t
    · obtain ⟨rfl, rfl⟩ := n1
      rw [cur]
      exact nw j' m hj' hm hml (by omega)
    by_cases n2 : i = j' ∧ m = t
    · obtain ⟨rfl, rfl⟩ := n2
      rw [cur]
      have := nw j k hj hk hkl (by omega)
      exact this.symm (fun e => e.symm)
    -- two old edges
    have ob : ∀ j k, j < X.length → 1 ≤ k → k < ((X.set i (del x t)).getD j []).length → ¬ (i = j ∧ k = t) → ∃ k0, 1 ≤ k0 ∧ k0 < (X.getD j []).length ∧ g2 ((X.set i (del x t)).getD j []) (k - 1) = g2 (X.getD j []) (k0 - 1) ∧ g2 ((X.set i (del x t)).getD j []) k = g2 (X.getD j []) k0 ∧
        (∀ q, q ∈ outr ((X.set i (del x t)).getD j []) k ↔ q ∈ outr (X.getD j []) k0) ∧ ((i = j → k0 = oldE t k ∧ k ≠ t) ∧ (i ≠ j → k0 = k)) := by
      intro j k hj hk hkl hn
      by_cases e : i = j
      · subst e
        have hkt : k ≠ t := fun q => hn ⟨rfl, q⟩
        rw [cur] at hkl ⊢
        obtain ⟨o1, o2, _⟩ := oe k hkt hk hkl
        obtain ⟨g1, g2'⟩ := dF (x := x) ht hk hkt
        rw [hx]
        exact ⟨oldE t k, o1, o2, g1, g2', fun q => qAC ht htl hk hkt q, fun _ => ⟨rfl, hkt⟩, fun q => absurd rfl q⟩
      · rw [old j e] at hkl ⊢
        exact ⟨k, hk, hkl, rfl, rfl, fun _ => Iff.rfl, fun q => absurd q e, fun _ => rfl⟩
    obtain ⟨k0, a1, a2, a3, a4, a5, a6, a7⟩ := ob j k hj hk hkl n1
    obtain ⟨m0, b1, b2, b3, b4, b5, b6, b7⟩ := ob j' m hj' hm hml n2
    have P := h.pr j k0 j' m0 hj hj' a1 a2 b1 b2 (by
      by_cases e : j = j'
      · right
        subst e
        have hkm : k ≠ m := by omega
        by_cases e2 : i = j
        · obtain ⟨q1, q2⟩ := a6 e2; obtain ⟨q3, q4⟩ := b6 e2
          rw [q1, q3]; unfold oldE; split <;> split <;> omega
        · rw [a7 e2, b7 e2]; exact hkm
      · exact .inl e)
    unfold Perm mtE at P ⊢
    rw [a3, a4, b3, b4]
    rcases P with q | ⟨q, q'⟩
    · exact .inl q
    · refine .inr ⟨q, ?_⟩
      rcases q' with ⟨e, q'⟩ | ⟨r, r1, r2⟩
      · left
        refine ⟨e, ?_⟩
        subst e
        by_cases e2 : i = j
        · obtain ⟨q1, q2⟩ := a6 e2; obtain ⟨q3, q4⟩ := b6 e2
          rw [q1, q3] at q'; unfold oldE at q'; split at q' <;> split at q' <;> omega
        · rw [a7 e2, b7 e2] at q'; exact q'
      · exact .inr ⟨r, (a5 r).2 r1, (b5 r).2 r2⟩
/-- Different points of a line, but for the first and the last one. -/
theorem qE4 {X : List (List (Int × Int))} {i : Nat} {x : List (Int × Int)} (h : Lines X) (hi : i < X.length) (hx : X.getD i [] = x) {u v : Nat} (huv : u < v) (hv : v < x.length) (he : ¬ (u = 0 ∧ v + 1 = x.length)) : g2 x u ≠ g2 x v := by
  intro e
  by_cases h1 : v = u + 1
  · subst h1
    have := h.nd i (u + 1) hi (by omega) (by rw [hx]; exact hv)
    rw [hx, Nat.add_sub_cancel] at this; exact this e
  · -- the edge behind u and the edge to v; or the edge to u
    by_cases h0 : v + 1 = x.length
    · have hu : 1 ≤ u := by omega
      have P := h.pr i u i v hi hi hu (by rw [hx]; omega) (by omega) (by rw [hx]; exact hv) (.inr (by omega))
      rw [hx] at P
      unfold Perm mtE at P
      rcases P with q | ⟨q, ⟨_, q'⟩ | ⟨r, r1, r2⟩⟩
      · exact (xA q).2.2.2 e.symm
      · omega
      · have n1 := h.nd i u hi hu (by rw [hx]; omega)
        rw [hx] at n1
        rcases outr_mem.1 r1 with ⟨e1, k1⟩ | ⟨e1, _⟩
        · rcases outr_mem.1 r2 with ⟨e2, _⟩ | ⟨_, k2⟩
          · omega
          · apply n1; rw [e1, Nat.sub_self, ← k1, k2, ← e, e1]
        · omega
    · have P := h.pr i (u + 1) i v hi hi (by omega) (by rw [hx]; omega) (by omega) (by rw [hx]; exact hv) (.inr (by omega))
      rw [hx] at P
      unfold Perm mtE at P
      rw [Nat.add_sub_cancel] at P
      rcases P with q | ⟨q, ⟨_, q'⟩ | ⟨r, r1, r2⟩⟩
      · exact (xA q).2.2.1 e.symm
      · -- neighbours that share both ends
        have hv2 : v = u + 2 := by omega
        subst hv2
        rw [show u + 2 - 1 = u + 1 by omega, ← e, xG] at q
        have n1 := h.nd i (u + 1) hi (by omega) (by rw [hx]; omega)
        rw [hx, Nat.add_sub_cancel] at n1
        exact nE n1 q
      · have n1 := h.nd i v hi (by omega) (by rw [hx]; exact hv)
        rw [hx] at n1
        rcases outr_mem.1 r2 with ⟨e2, _⟩ | ⟨e2, _⟩ <;> omega
def jG (x : List (Int × Int)) (k : Nat) (y : List (Int × Int)) (m : Nat) : Bool := (outr x k).any fun p => (outr y m).any fun q => p == q
theorem qBG {x y : List (Int × Int)} {k m : Nat} : jG x k y m = true ↔ EndS x k y m := by
  unfold jG EndS
  rw [List.any_eq_true]
  constructor
  · rintro ⟨p, hp, h⟩
    obtain ⟨q, hq, e⟩ := List.any_eq_true.1 h
    have e := eq_of_beq e
    subst e
    exact ⟨p, hp, hq⟩
  · rintro ⟨p, hp, hq⟩
    exact ⟨p, hp, List.any_eq_true.2 ⟨p, hq, by simp⟩⟩
def y9 (same : Bool) (x : List (Int × Int)) (k : Nat) (y : List (Int × Int)) (m : Nat) : Bool := (mtE x k y m == 0) || ((mtE x k y m == 1) && ((same && (m + 1 == k)) || jG x k y m))
def gD (x : List (Int × Int)) (k : Nat) (same : Bool) (y : List (Int × Int)) (last : Nat) : Bool := (List.range last).all fun m => (m == 0) || y9 same x k y m
def vR (X : List (List (Int × Int))) (i k : Nat) : Bool :=
  !(g2 (X.getD i []) (k - 1) == g2 (X.getD i []) k) && ((List.range i).all (fun j => gD (X.getD i []) k false (X.getD j []) (X.getD j []).length) && gD (X.getD i []) k true (X.getD i []) k)
def frAll (X : List (List (Int × Int))) : Bool := (List.range X.length).all fun i => (List.range (X.getD i []).length).all fun k => (k == 0) || vR X i k
theorem qBA {x y : List (Int × Int)} {k last : Nat} {s : Bool} (h : gD x k s y last = true) {m : Nat} (h1 : 1 ≤ m) (h2 : m < last) : y9 s x k y m = true := by
  have := List.all_eq_true.1 h m (List.mem_range.2 h2)
  rw [Bool.or_eq_true] at this
  rcases this with q | q
  · have : m = 0 := by simpa using q
    omega
  · exact q
theorem perm_of {x y : List (Int × Int)} {k m : Nat} {s : Bool} {S : Prop} (h : y9 s x k y m = true) (hs : s = true → S) : Perm S x k y m := by
  unfold y9 at h
  unfold Perm
  simp only [Bool.or_eq_true, Bool.and_eq_true, beq_iff_eq] at h
  rcases h with h | ⟨h, ⟨h1, h2⟩ | h1⟩
  · exact .inl h
  · exact .inr ⟨h, .inl ⟨hs h1, .inl h2⟩⟩
  · exact .inr ⟨h, .inr (qBG.1 h1)⟩
theorem of_perm {x y : List (Int × Int)} {k m : Nat} {s : Bool} {S : Prop} (h : Perm S x k y m) (hs : S → s = true ∧ m < k) : y9 s x k y m = true := by
  unfold y9
  simp only [Bool.or_eq_true, Bool.and_eq_true, beq_iff_eq]
  rcases h with h | ⟨h, ⟨h1, h2⟩ | h1⟩
  · exact .inl h
  · have := hs h1
    exact .inr ⟨h, .inl ⟨this.1, by omega⟩⟩
  · exact .inr ⟨h, .inr (qBG.2 h1)⟩
theorem rY {X : List (List (Int × Int))} (hs : ∀ i, i < X.length → 2 ≤ (X.getD i []).length) : frAll X = true ↔ Lines X := by
  constructor
  · intro h
    have at_ : ∀ i k, i < X.length → 1 ≤ k → k < (X.getD i []).length → vR X i k = true := fun i k hi h1 h2 => by
      have := List.all_eq_true.1 (List.all_eq_true.1 h i (List.mem_range.2 hi)) k (List.mem_range.2 h2)
      rw [Bool.or_eq_true] at this
      rcases this with q | q
      · have : k = 0 := by simpa using q
        omega
      · exact q
    have low : ∀ i k j m, i < X.length → 1 ≤ k → k < (X.getD i []).length → 1 ≤ m → m < (X.getD j []).length → (j < i ∨ (j = i ∧ m < k)) → Perm (i = j) (X.getD i []) k (X.getD j []) m := by
      intro i k j m hi hk hkl hm hml hd
      have f := at_ i k hi hk hkl
      unfold vR at f
      simp only [Bool.and_eq_true] at f
      rcases hd with h1 | ⟨h1, h2⟩
      · exact perm_of (qBA (List.all_eq_true.1 f.2.1 j (List.mem_range.2 h1)) hm hml) (fun e => by cases e)
      · subst h1; exact perm_of (qBA f.2.2 hm h2) (fun _ => rfl)
    refine ⟨hs, fun i k hi h1 h2 => ?_, fun i k j m hi hj hk hkl hm hml hd => ?_⟩
    · have f := at_ i k hi h1 h2
      unfold vR at f
      simp only [Bool.and_eq_true] at f
      intro e; rw [e] at f; simp at f
    · rcases (show j < i ∨ (j = i ∧ m < k) ∨ i < j ∨ (i = j ∧ k < m) by omega) with q | q | q | q
      · exact low i k j m hi hk hkl hm hml (.inl q)
      · exact low i k j m hi hk hkl hm hml (.inr q)
      · exact (low j m i k hj hm hml hk hkl (.inl q)).symm (fun e => e.symm)
      · exact (low j m i k hj hm hml hk hkl (.inr q)).symm (fun e => e.symm)
  · intro h
    refine List.all_eq_true.2 fun i hi => List.all_eq_true.2 fun k hk => ?_
    rw [List.mem_range] at hi hk
    by_cases h0 : k = 0
    · subst h0; rfl
    rw [Bool.or_eq_true]; right
    unfold vR gD
    simp only [Bool.and_eq_true, Bool.not_eq_true', beq_eq_false_iff_ne]
    refine ⟨h.nd i k hi (by omega) hk, List.all_eq_true.2 fun j hj => List.all_eq_true.2 fun m hm => ?_, List.all_eq_true.2 fun m hm => ?_⟩
    · rw [List.mem_range] at hj hm
      by_cases m0 : m = 0
      · subst m0; rfl
      rw [Bool.or_eq_true]; right
      exact of_perm (h.pr i k j m hi (by omega) (by omega) hk (by omega) hm (.inl (by omega))) (fun e => by omega)
    · rw [List.mem_range] at hm
      by_cases m0 : m = 0
      · subst m0; rfl
      rw [Bool.or_eq_true]; right
      exact of_perm (h.pr i k i m hi hi (by omega) hk (by omega) (by omega) (.inr (by omega))) (fun _ => ⟨rfl, hm⟩)
/-- which point may be left out -/
def rowB (a p b : Int × Int) (y : List (Int × Int)) : Bool := (List.range y.length).all fun k =>
  !(!(g2 y k == a) && (!(g2 y k == b) && (!(g2 y k == p) && triB a p b (g2 y k)))) && !(decide (0 < k) && (((g2 y (k - 1) == a) && (g2 y k == b)) || ((g2 y (k - 1) == b) && (g2 y k == a))))
def mayB (X : List (List (Int × Int))) (x : List (Int × Int)) (t : Nat) : Bool :=
  !((g2 x (t - 1) == g2 x (t + 1)) || ((g2 x 0 == g2 x (x.length - 1)) && decide (x.length < 5))) && X.all (rowB (g2 x (t - 1)) (g2 x t) (g2 x (t + 1)))
theorem may_del {X : List (List (Int × Int))} {i t : Nat} {x : List (Int × Int)} (h : Lines X) (hi : i < X.length) (hx : X.getD i [] = x) (ht : 1 ≤ t) (htl : t + 1 < x.length) (hm : mayB X x t = true) : Lines (X.set i (del x t)) := by
  unfold mayB at hm
  simp only [Bool.and_eq_true, Bool.not_eq_true', Bool.or_eq_false_iff, beq_eq_false_iff_ne] at hm
  obtain ⟨⟨hab, _⟩, hr⟩ := hm
  have row : ∀ j m, j < X.length → m < (X.getD j []).length → _ := fun j m hj hml => by
    have mem : X.getD j [] ∈ X := by
      rw [List.getD_eq_getElem?_getD, List.getElem?_eq_getElem hj]; exact List.getElem_mem hj
    exact List.all_eq_true.1 (List.all_eq_true.1 hr _ mem) m (List.mem_range.2 hml)
  refine lines_del h hi hx ht htl rfl rfl rfl hab (fun j m hj hml => ?_) (fun j m hj h1 hml => ?_)
  · have := row j m hj hml
    simp only [Bool.and_eq_true, Bool.not_eq_true', Bool.and_eq_false_iff, Bool.not_eq_false', beq_iff_eq] at this
    rcases this.1 with q | q | q | q
    · exact .inl q
    · exact .inr (.inl q)
    · exact .inr (.inr (.inl q))
    · exact .inr (.inr (.inr q))
  · have := row j m hj hml
    simp only [Bool.and_eq_true, Bool.not_eq_true', Bool.and_eq_false_iff, Bool.or_eq_false_iff, decide_eq_false_iff_not, beq_eq_false_iff_ne] at this
    rcases this.2 with q | ⟨q, r⟩
    · omega
    · exact ⟨fun e => q.elim (fun k => k e.1) (fun k => k e.2), fun e => r.elim (fun k => k e.1) (fun k => k e.2)⟩
def wth (p a b : Int × Int) (k : Int) : Bool := wthn p.1 p.2 a.1 a.2 b.1 b.2 k
def cS (tol : Int) (x : List (Int × Int)) (u v : Nat) : Bool := ((x.drop (u + 1)).take (v - (u + 1))).all fun p => wth p (g2 x u) (g2 x v) (mx tol 0)
/-- what is left of a line: K is kept, the last one of them at u; the rest begins at f -/
def kp (tol : Int) (X : List (List (Int × Int))) (i : Nat) (x : List (Int × Int)) : Nat → List (Int × Int) → Nat → Nat → List (Int × Int)
  | 0, K, _, f => K ++ x.drop f
  | n + 1, K, u, f => if f + 1 < x.length then
      (if (cS tol x u (f + 1) && mayB (X.set i (K ++ x.drop f)) (K ++ x.drop f) K.length) = true then kp tol X i x n K u (f + 1) else kp tol X i x n (K ++ [g2 x f]) f (f + 1))
    else K ++ x.drop f
theorem qB9 {y : List (Int × Int)} {k : Nat} (h : k < y.length) : g2 y k ∈ y := by
  unfold g2; rw [List.getD_eq_getElem?_getD, List.getElem?_eq_getElem h]; exact List.getElem_mem h
theorem drop_cons {x : List (Int × Int)} {f : Nat} (h : f < x.length) : x.drop f = g2 x f :: x.drop (f + 1) := by
  rw [List.drop_eq_getElem_cons h]; unfold g2; rw [List.getD_eq_getElem?_getD, List.getElem?_eq_getElem h]; rfl
theorem del_app {K x : List (Int × Int)} {f : Nat} (h : f < x.length) : del (K ++ x.drop f) K.length = K ++ x.drop (f + 1) := by
  unfold del
  rw [List.eraseIdx_append_of_length_le (Nat.le_refl _), Nat.sub_self, drop_cons h]; rfl
theorem app_get {K L : List (Int × Int)} {k : Nat} : g2 (K ++ L) k = if k < K.length then g2 K k else g2 L (k - K.length) := by
  unfold g2
  rw [List.getD_eq_getElem?_getD, List.getElem?_append]
  split <;> rfl
theorem drop_get (x : List (Int × Int)) (f k : Nat) : g2 (x.drop f) k = g2 x (f + k) := by
  unfold g2; rw [List.getD_eq_getElem?_getD, List.getElem?_drop]; rfl
/-- near an edge, or one of the points -/
def fT (tol : Int) (y : List (Int × Int)) (p : Int × Int) : Prop := (∃ k, 1 ≤ k ∧ k < y.length ∧ wth p (g2 y (k - 1)) (g2 y k) (mx tol 0) = true) ∨ p ∈ y
theorem fT.app {tol : Int} {K L : List (Int × Int)} {p : Int × Int} (h : fT tol K p) : fT tol (K ++ L) p := by
  rcases h with ⟨k, h1, h2, h3⟩ | h
  · refine .inl ⟨k, h1, by rw [List.length_append]; omega, ?_⟩
    rw [app_get, app_get, if_pos (by omega), if_pos h2]; exact h3
  · exact .inr (List.mem_append_left _ h)
theorem take_all {x : List (Int × Int)} {f : (Int × Int) → Bool} {u v : Nat} (h : ((x.drop (u + 1)).take (v - (u + 1))).all f = true) {w : Nat} (h1 : u < w) (h2 : w < v) (h3 : v ≤ x.length) : f (g2 x w) = true := by
  refine List.all_eq_true.1 h _ ?_
  have e : g2 x w = ((x.drop (u + 1)).take (v - (u + 1)))[w - (u + 1)]'(by simp; omega) := by
    unfold g2
    rw [List.getElem_take, List.getElem_drop, List.getD_eq_getElem?_getD, List.getElem?_eq_getElem (by omega)]
    simp only [Option.getD_some]
    congr 1; omega
  rw [e]; exact List.getElem_mem _
structure KI (tol : Int) (X : List (List (Int × Int))) (i : Nat) (x K : List (Int × Int)) (u f : Nat) : Prop where
  uf : u < f
  fl : f < x.length
  k1 : 1 ≤ K.length
  kf : K.length ≤ f
  last : g2 K (K.length - 1) = g2 x u
  first : g2 K 0 = g2 x 0
  lines : Lines (X.set i (K ++ x.drop f))
  near : ∀ w, w ≤ u → fT tol K (g2 x w)
  gap : ∀ w, u < w → w < f → wth (g2 x w) (g2 x u) (g2 x f) (mx tol 0) = true
theorem KI.skip {tol : Int} {X : List (List (Int × Int))} {i : Nat} {x K : List (Int × Int)} {u f : Nat} (h : KI tol X i x K u f) (hi : i < X.length) (hf : f + 1 < x.length) (hn : cS tol x u (f + 1) = true) (hm : mayB (X.set i (K ++ x.drop f)) (K ++ x.drop f) K.length = true) : KI tol X i x K u (f + 1) := by
  have h1 := h.uf; have h2 := h.k1; have h3 := h.kf
  refine ⟨by omega, hf, h.k1, by omega, h.last, h.first, ?_, h.near, fun w a b => take_all hn a b (by omega)⟩
  have := may_del (i := i) h.lines (by rw [List.length_set]; exact hi) (by rw [wN hi, if_pos rfl]) h2 (by rw [List.length_append, List.length_drop]; omega) hm
  rw [del_app (by omega), List.set_set] at this
  exact this
theorem KI.keep {tol : Int} {X : List (List (Int × Int))} {i : Nat} {x K : List (Int × Int)} {u f : Nat} (h : KI tol X i x K u f) (hf : f + 1 < x.length) : KI tol X i x (K ++ [g2 x f]) f (f + 1) := by
  have h1 := h.uf; have h2 := h.k1; have h3 := h.kf
  have kl : (K ++ [g2 x f]).length = K.length + 1 := by simp
  refine ⟨by omega, hf, by omega, by omega, ?_, ?_, ?_, fun w a => ?_, fun w a b => by omega⟩
  · rw [kl, app_get, if_neg (by omega)]; simp [g2]
  · rw [app_get, if_pos (by omega)]; exact h.first
  · rw [List.append_assoc, List.singleton_append, ← drop_cons (by omega)]; exact h.lines
  · rcases (show w ≤ u ∨ (u < w ∧ w < f) ∨ w = f by omega) with q | q | q
    · exact (h.near w q).app
    · refine .inl ⟨K.length, h2, by omega, ?_⟩
      rw [app_get, app_get, if_pos (by omega), if_neg (by omega), h.last, show g2 [g2 x f] (K.length - K.length) = g2 x f by rw [Nat.sub_self]; rfl]
      exact h.gap w q.1 q.2
    · subst q; exact .inr (by simp)
/-- what the loop leaves -/
theorem kp_spec {tol : Int} {X : List (List (Int × Int))} {i : Nat} {x : List (Int × Int)} (hi : i < X.length) : ∀ (n : Nat) (K : List (Int × Int)) (u f : Nat), x.length ≤ n + f → KI tol X i x K u f →
    Lines (X.set i (kp tol X i x n K u f)) ∧ g2 (kp tol X i x n K u f) 0 = g2 x 0 ∧ g2 (kp tol X i x n K u f) ((kp tol X i x n K u f).length - 1) = g2 x (x.length - 1) ∧ (2 ≤ (kp tol X i x n K u f).length ∧ (kp tol X i x n K u f).length ≤ x.length) ∧
      (∀ w, w < x.length → fT tol (kp tol X i x n K u f) (g2 x w)) := by
  intro n
  have fin : ∀ (K : List (Int × Int)) (u f : Nat), ¬ f + 1 < x.length → KI tol X i x K u f → Lines (X.set i (K ++ x.drop f)) ∧ g2 (K ++ x.drop f) 0 = g2 x 0 ∧ g2 (K ++ x.drop f) ((K ++ x.drop f).length - 1) = g2 x (x.length - 1) ∧ (2 ≤ (K ++ x.drop f).length ∧ (K ++ x.drop f).length ≤ x.length) ∧
      (∀ w, w < x.length → fT tol (K ++ x.drop f) (g2 x w)) := by
    intro K u f hf h
    have h1 := h.uf; have h2 := h.k1; have h3 := h.kf; have h4 := h.fl
    have e : f = x.length - 1 := by omega
    have l : (K ++ x.drop f).length = K.length + 1 := by rw [List.length_append, List.length_drop]; omega
    refine ⟨h.lines, ?_, ?_, ⟨by omega, by omega⟩, fun w hw => ?_⟩
    · rw [app_get, if_pos (by omega)]; exact h.first
    · rw [l, app_get, if_neg (by omega), drop_get]; congr 1; omega
    · rcases (show w ≤ u ∨ (u < w ∧ w < f) ∨ w = f by omega) with q | q | q
      · exact (h.near w q).app
      · refine .inl ⟨K.length, h2, by omega, ?_⟩
        rw [app_get, app_get, if_pos (by omega), if_neg (by omega), h.last, drop_get, Nat.sub_self, Nat.add_zero]
        exact h.gap w q.1 q.2
      · subst q; exact .inr (List.mem_append_right _ (by rw [drop_cons h4]; simp))
  induction n with
  | zero =>
    intro K u f hl h
    exact fin K u f (by have := h.fl; omega) h
  | succ n ih =>
    intro K u f hl h
    unfold kp
    by_cases hf : f + 1 < x.length
    · rw [if_pos hf]
      by_cases hc : (cS tol x u (f + 1) && mayB (X.set i (K ++ x.drop f)) (K ++ x.drop f) K.length) = true
      · rw [if_pos hc]
        rw [Bool.and_eq_true] at hc
        exact ih K u (f + 1) (by omega) (h.skip hi hf hc.1 hc.2)
      · rw [if_neg hc]
        exact ih _ f (f + 1) (by omega) (h.keep hf)
    · rw [if_neg hf]; exact fin K u f hf h
theorem KI.start {tol : Int} {X : List (List (Int × Int))} {i : Nat} {x : List (Int × Int)} (h : Lines X) (hi : i < X.length) (hx : X.getD i [] = x) : KI tol X i x [g2 x 0] 0 1 := by
  have h2 := h.size i hi
  rw [hx] at h2
  have e : [g2 x 0] ++ x.drop 1 = x := by
    rw [List.singleton_append, ← drop_cons (f := 0) (by omega), List.drop_zero]
  refine ⟨by omega, by omega, by simp, by simp, rfl, rfl, ?_, fun w hw => ?_, fun w a b => by omega⟩
  · rw [e, ← hx]
    have : X.set i (X.getD i []) = X := by
      apply List.ext_getElem (by simp)
      intro k h1 h2
      rw [List.getElem_set]
      split
      · rename_i q; subst q; rw [List.getD_eq_getElem?_getD, List.getElem?_eq_getElem hi]; rfl
      · rfl
    rw [this]; exact h
  · obtain rfl : w = 0 := by omega
    exact .inr (by simp)
theorem wth_a {a b : Int × Int} {k : Int} (h : 0 ≤ k) : wth a a b k = true := by
  unfold wth wthn
  have d0 : dot a.1 a.2 b.1 b.2 a.1 a.2 = 0 := by unfold dot; grind
  have d1 : dot a.1 a.2 a.1 a.2 a.1 a.2 = 0 := by unfold dot; grind
  unfold sqn sqd
  rw [d0, if_pos (Int.le_refl 0), if_pos (Int.le_refl 0), d1, decide_eq_true h]
  simp only [Bool.true_and, decide_eq_true_eq, Int.mul_one]
  exact fU _
theorem wth_b {a b : Int × Int} {k : Int} (h : 0 ≤ k) : wth b a b k = true := by
  by_cases e : a = b
  · subst e; exact wth_a h
  unfold wth wthn
  have p := mA e
  have d0 : dot a.1 a.2 b.1 b.2 b.1 b.2 = dt a b b := rfl
  have d1 : dot b.1 b.2 b.1 b.2 b.1 b.2 = 0 := by unfold dot; grind
  unfold sqn sqd
  have n : ¬ dt a b b ≤ 0 := by omega
  have q : dt a b b ≥ dt a b b := Int.le_refl _
  have d2 : dot a.1 a.2 b.1 b.2 b.1 b.2 = dt a b b := rfl
  simp only [d0, if_neg n, if_pos q, d1, decide_eq_true h]
  simp only [Bool.true_and, decide_eq_true_eq, Int.mul_one]
  exact fU _
theorem mx_nn0 (k : Int) : 0 ≤ mx k 0 := by unfold mx; split <;> omega
theorem fT.edge {tol : Int} {y : List (Int × Int)} {p : Int × Int} (h : fT tol y p) (hl : 2 ≤ y.length) : ∃ k, 1 ≤ k ∧ k < y.length ∧ wth p (g2 y (k - 1)) (g2 y k) (mx tol 0) = true := by
  rcases h with h | h
  · exact h
  · obtain ⟨k, hk, e⟩ := List.mem_iff_getElem.1 h
    have e' : g2 y k = p := by unfold g2; rw [List.getD_eq_getElem?_getD, List.getElem?_eq_getElem hk]; exact e
    by_cases h0 : k = 0
    · subst h0; exact ⟨1, by omega, by omega, by rw [show 1 - 1 = 0 from rfl, e']; exact wth_a (mx_nn0 tol)⟩
    · exact ⟨k, by omega, hk, by rw [e']; exact wth_b (mx_nn0 tol)⟩
def gV (tol : Int) (X : List (List (Int × Int))) : Nat → List (List (Int × Int))
  | 0 => X
  | i + 1 => (gV tol X i).set i (kp tol (gV tol X i) i (X.getD i []) (X.getD i []).length [g2 (X.getD i []) 0] 0 1)
/-- what a thinned line owes the old one -/
structure ThinL (tol : Int) (x y : List (Int × Int)) : Prop where
  two : 2 ≤ y.length
  len : y.length ≤ x.length
  first : g2 y 0 = g2 x 0
  last : g2 y (y.length - 1) = g2 x (x.length - 1)
  near : ∀ w, w < x.length → ∃ k, 1 ≤ k ∧ k < y.length ∧ wth (g2 x w) (g2 y (k - 1)) (g2 y k) (mx tol 0) = true
theorem keep_spec {tol : Int} {X : List (List (Int × Int))} (h : Lines X) : ∀ n, n ≤ X.length → Lines (gV tol X n) ∧ (gV tol X n).length = X.length ∧ (∀ j, n ≤ j → (gV tol X n).getD j [] = X.getD j []) ∧ (∀ j, j < n → ThinL tol (X.getD j []) ((gV tol X n).getD j [])) := by
  intro n
  induction n with
  | zero => exact fun _ => ⟨h, rfl, fun _ _ => rfl, fun j hj => by omega⟩
  | succ n ih =>
    intro hn
    obtain ⟨i1, i2, i3, i4⟩ := ih (by omega)
    have hi : n < (gV tol X n).length := by omega
    have hx : (gV tol X n).getD n [] = X.getD n [] := i3 n (Nat.le_refl n)
    have st := KI.start (tol := tol) i1 hi hx
    obtain ⟨s1, s2, s3, s4, s5⟩ := kp_spec hi (X.getD n []).length [g2 (X.getD n []) 0] 0 1 (by omega) st
    have sg : ∀ j, (gV tol X (n + 1)).getD j [] = if n = j then kp tol (gV tol X n) n (X.getD n []) (X.getD n []).length [g2 (X.getD n []) 0] 0 1 else (gV tol X n).getD j [] := fun j => by
      show ((gV tol X n).set n _).getD j [] = _
      rw [wN hi]
    refine ⟨s1, by show ((gV tol X n).set n _).length = _; rw [List.length_set]; exact i2, fun j hj => ?_, fun j hj => ?_⟩
    · rw [sg, if_neg (by omega)]; exact i3 j (by omega)
    · rw [sg]
      by_cases e : n = j
      · subst e
        rw [if_pos rfl]
        exact ⟨s4.1, s4.2, s2, s3, fun w hw => (s5 w hw).edge s4.1⟩
      · rw [if_neg e]; exact i4 j (by omega)
variable {ax ay bx b_y x y : Int}
theorem wr_add (a b : Int) : IntKind.wrap .i64 (IntKind.wrap .i64 a + b) = IntKind.wrap .i64 (a + b) := by
  rw [IntKind.wrap_i64, IntKind.wrap_i64, IntKind.wrap_i64]; omega
def trp (ps : List (Int × Int)) (i j : Nat) : Int := (cA ps i - cA ps j) * (cB ps i + cB ps j)
def dblF (ps : List (Int × Int)) (i : Nat) (s : Int) : Int := if i < ps.length then dblF ps (i + 1) (IntKind.wrap .i64 (s + trp ps i ((i + 1) % ps.length))) else s
termination_by ps.length - i
theorem dblF_end {ps : List (Int × Int)} {i : Nat} {s : Int} (h : ¬ i < ps.length) : dblF ps i s = s := by rw [dblF, if_neg h]
def dblE (ps : List (Int × Int)) (i : Nat) : Int := if i < ps.length then trp ps i ((i + 1) % ps.length) + dblE ps (i + 1) else 0
termination_by ps.length - i
def twE (ps : List (Int × Int)) (k : Nat) : Int := if k + 1 < ps.length then crs (cA ps 0) (cB ps 0) (cA ps k) (cB ps k) (cA ps (k + 1)) (cB ps (k + 1)) + twE ps (k + 1) else 0
termination_by ps.length - k
theorem dblF_E (ps : List (Int × Int)) : ∀ (m i : Nat) (s : Int), i + m = ps.length → dblF ps i (IntKind.wrap .i64 s) = IntKind.wrap .i64 (s + dblE ps i)
  | 0, i, s, h => by rw [dblF_end (by omega), dblE, if_neg (by omega), Int.add_zero]
  | m + 1, i, s, h => by
    rw [dblF, if_pos (by omega), wr_add, dblF_E ps m (i + 1) _ (by omega)]
    conv => rhs; rw [dblE, if_pos (by omega)]
    rw [Int.add_assoc]
theorem twF_E (ps : List (Int × Int)) : ∀ (m k : Nat) (s : Int), ps.length ≤ k + m → twF ps k (IntKind.wrap .i64 s) = IntKind.wrap .i64 (s + twE ps k)
  | 0, k, s, h => by rw [twF_end (by omega), twE, if_neg (by omega), Int.add_zero]
  | m + 1, k, s, h => by
    by_cases hk : k + 1 < ps.length
    · rw [twF, if_pos hk, wr_add, twF_E ps m (k + 1) _ (by omega)]
      conv => rhs; rw [twE, if_pos hk]
      rw [Int.add_assoc]
    · rw [twF_end hk, twE, if_neg hk, Int.add_zero]
theorem dbl_tw (ps : List (Int × Int)) : ∀ (m k : Nat), k + m + 1 = ps.length → dblE ps k = (if k = 0 then 0 else trp ps k 0) + twE ps (if k = 0 then 1 else k) - (if k = 0 then 0 else 0) := by
  have main : ∀ (m k : Nat), 1 ≤ k → k + m + 1 = ps.length → dblE ps k = trp ps k 0 + twE ps k := by
    intro m
    induction m with
    | zero =>
      intro k h1 h
      rw [dblE, if_pos (by omega), dblE, if_neg (by omega), twE, if_neg (by omega), show k + 1 = ps.length by omega, Nat.mod_self]
    | succ m ih =>
      intro k h1 h
      rw [dblE, if_pos (by omega), ih (k + 1) (by omega) (by omega), Nat.mod_eq_of_lt (by omega)]
      conv => rhs; rw [twE, if_pos (by omega)]
      unfold trp crs; grind
  intro m k h
  by_cases hk : k = 0
  · subst hk
    simp only [if_true]
    cases m with
    | zero => rw [dblE, if_pos (by omega), dblE, if_neg (by omega), twE, if_neg (by omega), show 0 + 1 = ps.length by omega, Nat.mod_self]; unfold trp; simp
    | succ m =>
      rw [dblE, if_pos (by omega), main m (0 + 1) (by omega) (by omega), Nat.mod_eq_of_lt (by omega)]
      unfold trp; grind
  · rw [if_neg hk, if_neg hk, if_neg hk, main m k (by omega) h]; omega
theorem dblF_twF (ps : List (Int × Int)) : dblF ps 0 0 = twF ps 1 0 := by
  have z : IntKind.wrap .i64 0 = 0 := by rw [IntKind.wrap_i64]; omega
  have a := dblF_E ps ps.length 0 0 (by omega)
  have b := twF_E ps ps.length 1 0 (by omega)
  rw [z] at a b
  rw [a, b]
  cases h : ps.length with
  | zero => rw [dblE, if_neg (by omega), twE, if_neg (by omega)]
  | succ n =>
    have := dbl_tw ps n 0 (by omega)
    simp only [if_true] at this
    rw [this]; congr 1; omega
/-- the first place whose point is such a one -/
def ixF (f : Int × Int → Bool) (ps : List (Int × Int)) (i : Nat) : Int := if i < ps.length then (if f (ps.getD i (0, 0)) = true then ((i : Nat) : Int) else ixF f ps (i + 1)) else -1
termination_by ps.length - i
theorem nK {f : Int × Int → Bool} {ps : List (Int × Int)} {i : Nat} (h : ¬ i < ps.length) : ixF f ps i = -1 := by rw [ixF, if_neg h]
theorem cZ {f : Int × Int → Bool} {ps : List (Int × Int)} {i : Nat} (h : i < ps.length) (hf : f (ps.getD i (0, 0)) = true) : ixF f ps i = ((i : Nat) : Int) := by rw [ixF, if_pos h, if_pos hf]
theorem rQ {f : Int × Int → Bool} {ps : List (Int × Int)} {i : Nat} (h : i < ps.length) (hf : f (ps.getD i (0, 0)) = false) : ixF f ps (i + 1) = ixF f ps i := by
  conv => rhs; rw [ixF, if_pos h, if_neg (by rw [hf]; decide)]
theorem ixF_bd (f : Int × Int → Bool) (ps : List (Int × Int)) : ∀ (m i : Nat), i + m = ps.length → (ixF f ps i = -1 ∧ (ps.drop i).any f = false) ∨ (∃ j, i ≤ j ∧ j < ps.length ∧ ixF f ps i = ((j : Nat) : Int) ∧ f (ps.getD j (0, 0)) = true ∧ (ps.drop i).any f = true ∧ ∀ q, i ≤ q → q < j → f (ps.getD q (0, 0)) = false)
  | 0, i, h => .inl ⟨nK (by omega), by rw [List.drop_of_length_le (by omega)]; rfl⟩
  | m + 1, i, h => by
    have hl : i < ps.length := by omega
    have hd : ps.drop i = ps.getD i (0, 0) :: ps.drop (i + 1) := by rw [List.drop_eq_getElem_cons hl, jV hl]
    rcases Bool.eq_false_or_eq_true (f (ps.getD i (0, 0))) with hf | hf
    · exact .inr ⟨i, Nat.le_refl _, hl, cZ hl hf, hf, by rw [hd, List.any_cons, hf]; rfl, fun q h1 h2 => by omega⟩
    · rcases ixF_bd f ps m (i + 1) (by omega) with ⟨h1, h2⟩ | ⟨j, h1, h2, h3, h4, h5, h6⟩
      · exact .inl ⟨by rw [← rQ hl hf]; exact h1, by rw [hd, List.any_cons, hf, h2]; rfl⟩
      · refine .inr ⟨j, by omega, h2, by rw [← rQ hl hf]; exact h3, h4, by rw [hd, List.any_cons, h5, Bool.or_true], fun q q1 q2 => ?_⟩
        rcases Nat.eq_or_lt_of_le q1 with rfl | q1
        · exact hf
        · exact h6 q q1 q2
theorem ixF_any (f : Int × Int → Bool) (ps : List (Int × Int)) : decide (ixF f ps 0 ≥ 0) = ps.any f := by
  rcases ixF_bd f ps ps.length 0 (by omega) with ⟨h1, h2⟩ | ⟨j, _, _, h3, _, h5, _⟩
  · rw [h1]; rw [List.drop_zero] at h2; rw [h2]; rfl
  · rw [h3]; rw [List.drop_zero] at h5; rw [h5]; exact decide_eq_true (by omega)
def nok (q : Int × Int) : Bool := !(okb q.1 q.2)
section
variable {ps : List (Int × Int)} {k k2 i i2 : Nat}
end
section
variable {ps : List (Int × Int)}
end
theorem nV {a b : List (Int × Int)} (hl : a.length = b.length) (h : ∀ i, i < a.length → a.getD i (0, 0) = b.getD i (0, 0)) : a = b := by
  refine List.ext_getElem hl fun i h1 h2 => ?_
  have := h i h1
  rwa [jV h1, jV h2] at this
/-- the first i pairs from both ends are exchanged -/
def rvl (ps : List (Int × Int)) (i : Nat) : List (Int × Int) := (List.range ps.length).map fun q => if q < i ∨ ps.length ≤ q + i then ps.getD (ps.length - 1 - q) (0, 0) else ps.getD q (0, 0)
theorem yH (ps : List (Int × Int)) (i : Nat) : (rvl ps i).length = ps.length := by simp [rvl]
theorem pT {ps : List (Int × Int)} {i q : Nat} (h : q < ps.length) : (rvl ps i).getD q (0, 0) = if q < i ∨ ps.length ≤ q + i then ps.getD (ps.length - 1 - q) (0, 0) else ps.getD q (0, 0) := by
  rw [jV (by rw [yH]; exact h)]; simp [rvl]
theorem rvl_0 (ps : List (Int × Int)) : rvl ps 0 = ps := by
  refine nV (yH ps 0) fun i hi => ?_
  rw [yH] at hi
  rw [pT hi, if_neg (by omega)]
theorem set_at {l : List (Int × Int)} {i j : Nat} {v : Int × Int} (h : j < l.length) : (l.set i v).getD j (0, 0) = if i = j then v else l.getD j (0, 0) := by
  rw [jV (by simpa using h), jV h, List.getElem_set]
theorem rvl_next {ps : List (Int × Int)} {i j : Nat} (hj : i + j + 1 = ps.length) (hl : i < j) : ((rvl ps i).set i ((rvl ps i).getD j (0, 0))).set j ((rvl ps i).getD i (0, 0)) = rvl ps (i + 1) := by
  refine nV (by simp [yH]) fun q hq => ?_
  have hq' : q < ps.length := by simpa [yH] using hq
  rw [set_at (by simpa [yH] using hq'), set_at (by rw [yH]; exact hq'), pT hq', pT (by omega), pT (by omega), pT hq']
  by_cases h1 : j = q
  · subst h1
    rw [if_pos rfl, if_neg (by omega), if_pos (by omega)]
    congr 1; omega
  · rw [if_neg h1]
    by_cases h2 : i = q
    · subst h2
      rw [if_pos rfl, if_neg (by omega), if_pos (by omega)]
      congr 1; omega
    · rw [if_neg h2]
      by_cases h3 : q < i ∨ ps.length ≤ q + i
      · rw [if_pos h3, if_pos (by omega)]
      · rw [if_neg h3, if_neg (by omega)]
theorem rev_at {ps : List (Int × Int)} {q : Nat} (h : q < ps.length) : ps.reverse.getD q (0, 0) = ps.getD (ps.length - 1 - q) (0, 0) := by
  rw [jV (by simpa using h), List.getElem_reverse, jV (by omega)]
theorem rvl_end {ps : List (Int × Int)} {i j : Nat} (hj : i + j + 1 = ps.length) (hl : ¬ i < j) : rvl ps i = ps.reverse := by
  refine nV (by simp [yH]) fun q hq => ?_
  have hq' : q < ps.length := by simpa [yH] using hq
  rw [pT hq', rev_at hq']
  split
  · rfl
  · congr 1; omega
def eqTo (a q : Int × Int) : Bool := (a.1 == q.1) && ((a.2 == q.2) && true)
theorem eqTo_iff (a q : Int × Int) : eqTo a q = true ↔ a = q := by
  unfold eqTo; simp [Prod.ext_iff]
section
variable {ps : List (Int × Int)} {m q i : Nat}
end
theorem beq_eqTo (p q : Int × Int) : (p == q) = eqTo p q := by
  rw [Bool.eq_iff_iff, eqTo_iff, beq_iff_eq]
theorem nbF {b : Bool} (h : (!b) = false) : b = true := by simpa using h
theorem nbT {b : Bool} (h : (!b) = true) : b = false := by simpa using h
theorem jK {x y L M : List (Int × Int)} {k m : Nat} (hx : outr x k = L) (hy : outr y m = M) : jG x k y m = L.any fun p => M.any fun q => eqTo p q := by
  unfold jG; subst hx; subst hy
  simp only [beq_eqTo]
theorem mY {x : List (Int × Int)} {k : Nat} (h1 : k ≠ 1) (h2 : k + 1 ≠ x.length) : outr x k = [] := by unfold outr; rw [if_neg h1, if_neg h2]; rfl
theorem vN {x : List (Int × Int)} {k : Nat} (h1 : k = 1) (h2 : k + 1 ≠ x.length) : outr x k = [x.getD 0 (0, 0)] := by unfold outr; rw [if_pos h1, if_neg h2]; rfl
theorem vP {x : List (Int × Int)} {k : Nat} (h1 : k ≠ 1) (h2 : k + 1 = x.length) : outr x k = [x.getD k (0, 0)] := by unfold outr; rw [if_neg h1, if_pos h2]; rfl
theorem jZ {x : List (Int × Int)} {k : Nat} (h1 : k = 1) (h2 : k + 1 = x.length) : outr x k = [x.getD 0 (0, 0), x.getD k (0, 0)] := by unfold outr; rw [if_pos h1, if_pos h2]; rfl
theorem xQ {f : Nat → Bool} {j : Nat} (h : (List.range j).all f = true) (hj : f j = true) : (List.range (j + 1)).all f = true := by
  rw [List.range_succ, List.all_append, h]; simp [hj]
theorem fJ {f : Nat → Bool} {j n : Nat} (hj : j < n) (h : f j = false) : (List.range n).all f = false := by
  rw [← Bool.not_eq_true, List.all_eq_true]
  intro q
  rw [q j (List.mem_range.2 hj)] at h; cases h
theorem vX {x y : List (Int × Int)} {k m : Nat} {s : Bool} (h : gD x k s y m = true) (hp : y9 s x k y m = true) : gD x k s y (m + 1) = true := by
  unfold gD at *
  exact xQ h (by rw [hp]; simp)
theorem jW {x y : List (Int × Int)} {k m last : Nat} {s : Bool} (h1 : 1 ≤ m) (h2 : m < last) (hp : y9 s x k y m = false) : gD x k s y last = false := by
  unfold gD
  exact fJ h2 (by rw [hp]; simp; omega)
def fro (X : List (List (Int × Int))) (i k j : Nat) : Bool := if j = i then gD (X.getD i []) k true (X.getD i []) k else gD (X.getD i []) k false (X.getD j []) (X.getD j []).length
theorem c7 {X : List (List (Int × Int))} {i k j : Nat} {b : Bool} (e : j = i) (h : gD (X.getD i []) k true (X.getD j []) k = b) : fro X i k j = b := by
  subst e; unfold fro; rw [if_pos rfl]; exact h
theorem fW {X : List (List (Int × Int))} {i k j : Nat} {b : Bool} (e : j ≠ i) (h : gD (X.getD i []) k false (X.getD j []) (X.getD j []).length = b) : fro X i k j = b := by
  unfold fro; rw [if_neg e]; exact h
theorem c8 (X : List (List (Int × Int))) (i k : Nat) : vR X i k = (!(eqTo (g2 (X.getD i []) (k - 1)) (g2 (X.getD i []) k)) && (List.range (i + 1)).all (fro X i k)) := by
  unfold vR
  rw [beq_eqTo, List.range_succ, List.all_append]
  have e1 : (List.range i).all (fro X i k) = (List.range i).all (fun j => gD (X.getD i []) k false (X.getD j []) (X.getD j []).length) := by
    rw [Bool.eq_iff_iff, List.all_eq_true, List.all_eq_true]
    constructor
    · intro h j hj
      rw [← h j hj]; exact (fW (by have := List.mem_range.1 hj; omega) rfl).symm
    · intro h j hj
      exact fW (by have := List.mem_range.1 hj; omega) (h j hj)
  rw [e1]
  simp only [List.all_cons, List.all_nil, Bool.and_true]
  rw [c7 (X := X) (i := i) (k := k) rfl rfl]
theorem fQ {X : List (List (Int × Int))} {i k : Nat} (h : eqTo (g2 (X.getD i []) (k - 1)) (g2 (X.getD i []) k) = true) : vR X i k = false := by rw [c8, h]; rfl
theorem gW {X : List (List (Int × Int))} {i k j : Nat} (hj : j < i + 1) (h : fro X i k j = false) : vR X i k = false := by rw [c8, fJ hj h, Bool.and_false]
theorem x7 {X : List (List (Int × Int))} {i k : Nat} (h : eqTo (g2 (X.getD i []) (k - 1)) (g2 (X.getD i []) k) = false) (ha : (List.range (i + 1)).all (fro X i k) = true) : vR X i k = true := by rw [c8, h, ha]; rfl
theorem perm_0 {s : Bool} {x y : List (Int × Int)} {k m : Nat} (h : (mtE x k y m == 0) = true) : y9 s x k y m = true := by unfold y9; rw [h]; rfl
theorem perm_1 {x y : List (Int × Int)} {k m : Nat} (h : (mtE x k y m == 1) = true) (hm : m + 1 = k) : y9 true x k y m = true := by unfold y9; rw [h, beq_iff_eq.2 hm]; simp
theorem perm_e {s : Bool} {x y : List (Int × Int)} {k m : Nat} (h : (mtE x k y m == 1) = true) (he : jG x k y m = true) : y9 s x k y m = true := by unfold y9; rw [h, he]; simp
theorem perm_n {s : Bool} {x y : List (Int × Int)} {k m : Nat} (h0 : (mtE x k y m == 0) = false) (h : (mtE x k y m == 1) = false) : y9 s x k y m = false := by unfold y9; rw [h, h0]; rfl
theorem perm_f {x y : List (Int × Int)} {k m : Nat} (h0 : (mtE x k y m == 0) = false) (he : jG x k y m = false) : y9 false x k y m = false := by unfold y9; rw [h0, he]; simp
theorem perm_t {x y : List (Int × Int)} {k m : Nat} (h0 : (mtE x k y m == 0) = false) (hm : ¬ (m + 1 = k)) (he : jG x k y m = false) : y9 true x k y m = false := by
  unfold y9; rw [h0, he, show (m + 1 == k) = false from by simpa using hm]; simp
def rowE (x : List (Int × Int)) : Int := if 200 < x.length then 2 else if x.length < 2 then 3 else if x.any nok = true then 1 else 0
def fstE : List (List (Int × Int)) → Int
  | [] => 0
  | x :: X => if rowE x = 0 then fstE X else rowE x
def lnsE (X : List (List (Int × Int))) : Int := if 20 < X.length then 2 else if fstE X = 0 then (if frAll X = true then 0 else 10) else fstE X
def okTo (X : List (List (Int × Int))) (i : Nat) : Prop := ∀ j, j < i → rowE (X.getD j []) = 0
theorem okTo_0 (X : List (List (Int × Int))) : okTo X 0 := fun j hj => by omega
theorem okTo_next {X : List (List (Int × Int))} {i : Nat} (h : okTo X i) (h1 : (X.getD i []).length ≤ 200) (h2 : 2 ≤ (X.getD i []).length) (h3 : (X.getD i []).any nok = false) : okTo X (i + 1) := fun j hj => by
  by_cases e : j = i
  · subst e; unfold rowE; rw [if_neg (by omega), if_neg (by omega), h3]; rfl
  · exact h j (by omega)
theorem eB : ∀ {X : List (List (Int × Int))}, okTo X X.length → fstE X = 0
  | [], _ => rfl
  | x :: X, h => by
    unfold fstE
    rw [if_pos (show rowE x = 0 from h 0 (by simp))]
    exact eB fun j hj => h (j + 1) (by simp; omega)
theorem fstE_at : ∀ {X : List (List (Int × Int))} {i : Nat} {e : Int}, okTo X i → i < X.length → rowE (X.getD i []) = e → e ≠ 0 → fstE X = e
  | [], _, _, _, hi, _, _ => by simp at hi
  | x :: X, 0, e, _, _, he, hne => by
    have he : rowE x = e := he
    unfold fstE; rw [he, if_neg hne]
  | x :: X, i + 1, e, h, hi, he, hne => by
    unfold fstE
    rw [if_pos (show rowE x = 0 from h 0 (by omega))]
    exact fstE_at (i := i) (fun j hj => h (j + 1) (by omega)) (by simp at hi; omega) he hne
theorem okTo_all {X : List (List (Int × Int))} (h : fstE X = 0) : okTo X X.length := by
  induction X with
  | nil => exact fun j hj => by simp at hj
  | cons x X ih =>
    unfold fstE at h
    split at h
    · rename_i e
      intro j hj
      cases j with
      | zero => exact e
      | succ j => exact ih h j (by simp at hj; omega)
    · rename_i e; exact absurd h e
theorem y7 {x : List (Int × Int)} (h : rowE x = 0) : 2 ≤ x.length ∧ x.length ≤ 200 ∧ x.any nok = false := by
  unfold rowE at h
  split at h
  · cases h
  · split at h
    · cases h
    · split at h
      · cases h
      · rename_i a b c; exact ⟨by omega, by omega, by simpa using c⟩
theorem few_nokF {x : List (Int × Int)} (h : x.any nok = false) : Few 1048576 x := uB (by decide) fun q hq => by
  have h1 := List.any_eq_false.1 h q hq
  unfold nok at h1
  have h2 : okb q.1 q.2 = true := by simpa using h1
  exact (okb_iff _ _).1 h2
theorem dG {X : List (List (Int × Int))} (h : okTo X X.length) (i : Nat) : Few 1048576 (X.getD i []) := by
  by_cases hi : i < X.length
  · exact few_nokF (y7 (h i hi)).2.2
  · rw [List.getD_eq_getElem?_getD, List.getElem?_eq_none_iff.2 (by omega)]
    exact fun j => by simp
def nP (X : List (List (Int × Int))) (i k : Nat) : Bool := (List.range k).all fun k => (k == 0) || vR X i k
def frTo (X : List (List (Int × Int))) (i : Nat) : Bool := (List.range i).all fun i => nP X i (X.getD i []).length
theorem qEG {X : List (List (Int × Int))} {i k : Nat} (h : nP X i k = true) (hf : vR X i k = true) : nP X i (k + 1) = true := by
  unfold nP at *; exact xQ h (by rw [hf]; simp)
theorem frTo_next {X : List (List (Int × Int))} {i : Nat} (h : frTo X i = true) (hf : nP X i (X.getD i []).length = true) : frTo X (i + 1) = true := by
  unfold frTo at *; exact xQ h hf
theorem qE3 {X : List (List (Int × Int))} (h : 20 < X.length) : lnsE X = 2 := by unfold lnsE; rw [if_pos h]
theorem xR {X : List (List (Int × Int))} {i : Nat} {e : Int} (h : ¬ 20 < X.length) (ho : okTo X i) (hi : i < X.length) (he : rowE (X.getD i []) = e) (hne : e ≠ 0) : lnsE X = e := by
  unfold lnsE; rw [if_neg h, fstE_at ho hi he hne, if_neg hne]
theorem pV {x : List (Int × Int)} (h : 200 < x.length) : rowE x = 2 := by unfold rowE; rw [if_pos h]
theorem pU {x : List (Int × Int)} (h : x.length < 2) : rowE x = 3 := by unfold rowE; rw [if_neg (by omega), if_pos h]
theorem pW {x : List (Int × Int)} (h1 : ¬ 200 < x.length) (h2 : ¬ x.length < 2) (h : x.any nok = true) : rowE x = 1 := by unfold rowE; rw [if_neg h1, if_neg h2, if_pos h]
theorem p8 {X : List (List (Int × Int))} {i k : Nat} (h : ¬ 20 < X.length) (ho : okTo X X.length) (hi : i < X.length) (h1 : 1 ≤ k) (hk : k < (X.getD i []).length) (hf : vR X i k = false) : lnsE X = 10 := by
  unfold lnsE
  rw [if_neg h, eB ho, if_pos rfl, if_neg]
  have : frAll X = false := fJ hi (fJ hk (by rw [hf]; simp; omega))
  rw [this]; simp
theorem sX {X : List (List (Int × Int))} (h : ¬ 20 < X.length) (ho : okTo X X.length) (hf : frTo X X.length = true) : lnsE X = 0 := by
  unfold lnsE
  rw [if_neg h, eB ho, if_pos rfl, if_pos (show frAll X = true from hf)]
theorem p7 {X : List (List (Int × Int))} (h : lnsE X = 0) : X.length ≤ 20 ∧ okTo X X.length ∧ frAll X = true ∧ Lines X := by
  unfold lnsE at h
  split at h
  · cases h
  · split at h
    · rename_i a b
      split at h
      · rename_i c
        have ho := okTo_all b
        exact ⟨by omega, ho, c, (rY (fun i hi => (y7 (ho i hi)).1)).1 c⟩
      · cases h
    · rename_i a b; exact absurd h b
theorem lns_of {X : List (List (Int × Int))} (h : X.length ≤ 20) (ho : okTo X X.length) (hl : Lines X) : lnsE X = 0 :=
  sX (by omega) ho ((rY hl.size).2 hl)
theorem cmpd_ge (a : Int) : decide (cmp a 0 ≥ 0) = decide (0 ≤ a) := by
  unfold cmp; by_cases h1 : a < 0 <;> by_cases h2 : 0 < a <;> simp [h1, h2] <;> omega
theorem cmpd_le (a : Int) : decide (cmp a 0 ≤ 0) = decide (a ≤ 0) := by
  unfold cmp; by_cases h1 : a < 0 <;> by_cases h2 : 0 < a <;> simp [h1, h2] <;> omega
theorem cmpd_0 (a : Int) : (cmp a 0 == 0) = decide (a = 0) := by
  unfold cmp; by_cases h1 : a < 0 <;> by_cases h2 : 0 < a <;> simp [h1, h2] <;> omega
theorem vJ {a p b q : Int × Int} (h : (cmp (tr a p b) 0 == 0) = true) : triB a p b q = (onP a p q || onP p b q) := by
  rw [cmpd_0, decide_eq_true_eq] at h
  unfold triB; rw [if_pos h]
theorem jD {a p b q : Int × Int} (h : (cmp (tr a p b) 0 == 0) = false) : triB a p b q = ((decide (cmp (tr a p q) 0 ≥ 0) && (decide (cmp (tr p b q) 0 ≥ 0) && decide (cmp (tr b a q) 0 ≥ 0))) || (decide (cmp (tr a p q) 0 ≤ 0) && (decide (cmp (tr p b q) 0 ≤ 0) && decide (cmp (tr b a q) 0 ≤ 0)))) := by
  rw [cmpd_0, decide_eq_false_iff_not] at h
  unfold triB; rw [if_neg h]; simp only [cmpd_ge, cmpd_le]
def tG (a p b : Int × Int) (y : List (Int × Int)) (k : Nat) : Bool :=
  !(!(g2 y k == a) && (!(g2 y k == b) && (!(g2 y k == p) && triB a p b (g2 y k)))) && !(decide (0 < k) && (((g2 y (k - 1) == a) && (g2 y k == b)) || ((g2 y (k - 1) == b) && (g2 y k == a))))
theorem cellB_val {a p b : Int × Int} {y : List (Int × Int)} {k : Nat} : tG a p b y k = (!(!(eqTo (g2 y k) a) && (!(eqTo (g2 y k) b) && (!(eqTo (g2 y k) p) && triB a p b (g2 y k)))) && !(decide (((k : Nat) : Int) > 0) && ((eqTo (g2 y (k - 1)) a && eqTo (g2 y k) b) || (eqTo (g2 y (k - 1)) b && eqTo (g2 y k) a)))) := by
  unfold tG; simp only [beq_eqTo]
  rw [show decide (0 < k) = decide (((k : Nat) : Int) > 0) from by simp]
def fS (a p b : Int × Int) (y : List (Int × Int)) (k : Nat) : Bool := (List.range k).all (tG a p b y)
def uX (a p b : Int × Int) (X : List (List (Int × Int))) (j : Nat) : Bool := (List.range j).all fun j => fS a p b (X.getD j []) (X.getD j []).length
theorem eN {a p b : Int × Int} {y : List (Int × Int)} {k : Nat} (h : fS a p b y k = true) (hc : tG a p b y k = true) : fS a p b y (k + 1) = true := xQ h hc
theorem qDE {a p b : Int × Int} {X : List (List (Int × Int))} {j : Nat} (h : uX a p b X j = true) (hc : fS a p b (X.getD j []) (X.getD j []).length = true) : uX a p b X (j + 1) = true := xQ h hc
theorem all_range {X : List (List (Int × Int))} {f : List (Int × Int) → Bool} : X.all f = (List.range X.length).all fun j => f (X.getD j []) := by
  rw [Bool.eq_iff_iff, List.all_eq_true, List.all_eq_true]
  constructor
  · intro h j hj
    have := List.mem_range.1 hj
    rw [List.getD_eq_getElem?_getD, List.getElem?_eq_getElem this]
    exact h _ (List.getElem_mem _)
  · intro h x hx
    obtain ⟨j, hj, e⟩ := List.getElem_of_mem hx
    have := h j (List.mem_range.2 hj)
    rw [List.getD_eq_getElem?_getD, List.getElem?_eq_getElem hj, Option.getD_some, e] at this
    exact this
theorem nG {X : List (List (Int × Int))} {x : List (Int × Int)} {t : Nat} : mayB X x t = (!(eqTo (g2 x (t - 1)) (g2 x (t + 1)) || (eqTo (g2 x 0) (g2 x (x.length - 1)) && decide (((x.length : Nat) : Int) < 5))) && uX (g2 x (t - 1)) (g2 x t) (g2 x (t + 1)) X X.length) := by
  unfold mayB uX
  rw [beq_eqTo, beq_eqTo, all_range, show decide (x.length < 5) = decide (((x.length : Nat) : Int) < 5) from by simp; omega]
  rfl
def mPre (x : List (Int × Int)) (t : Nat) : Bool := eqTo (g2 x (t - 1)) (g2 x (t + 1)) || (eqTo (g2 x 0) (g2 x (x.length - 1)) && decide (((x.length : Nat) : Int) < 5))
def clA (a p b : Int × Int) (y : List (Int × Int)) (k : Nat) : Bool := !(!(eqTo (g2 y k) a) && (!(eqTo (g2 y k) b) && (!(eqTo (g2 y k) p) && triB (a.1, a.2) (p.1, p.2) (b.1, b.2) ((g2 y k).1, (g2 y k).2))))
def clC (a b : Int × Int) (y : List (Int × Int)) (k : Nat) : Bool := !(decide (((k : Nat) : Int) > 0) && ((eqTo (g2 y (k - 1)) a && eqTo (g2 y k) b) || (eqTo (g2 y (k - 1)) b && eqTo (g2 y k) a)))
theorem tF {a p b : Int × Int} {y : List (Int × Int)} {k : Nat} : tG a p b y k = (clA a p b y k && clC a b y k) := cellB_val
theorem cell_yes {a p b : Int × Int} {y : List (Int × Int)} {k : Nat} (h1 : clA a p b y k = true) (h2 : clC a b y k = true) : tG a p b y k = true := by rw [tF, h1, h2]; rfl
theorem xL {a p b : Int × Int} {y : List (Int × Int)} {k : Nat} (h1 : clA a p b y k = false) : tG a p b y k = false := by rw [tF, h1]; rfl
theorem j8 {a p b : Int × Int} {y : List (Int × Int)} {k : Nat} (h1 : clC a b y k = false) : tG a p b y k = false := by rw [tF, h1, Bool.and_false]
theorem wQ {X : List (List (Int × Int))} {x : List (Int × Int)} {t : Nat} (h : mPre x t = true) : mayB X x t = false := by rw [nG, show (_ || _) = true from h]; rfl
theorem wP {X : List (List (Int × Int))} {x : List (Int × Int)} {t : Nat} (h : mPre x t = false) (hr : uX (g2 x (t - 1)) (g2 x t) (g2 x (t + 1)) X X.length = true) : mayB X x t = true := by rw [nG, show (_ || _) = false from h, hr]; rfl
theorem vG {X : List (List (Int × Int))} {x : List (Int × Int)} {t j k : Nat} (hj : j < X.length) (hk : k < (X.getD j []).length) (h : tG (g2 x (t - 1)) (g2 x t) (g2 x (t + 1)) (X.getD j []) k = false) : mayB X x t = false := by
  have : uX (g2 x (t - 1)) (g2 x t) (g2 x (t + 1)) X X.length = false := fJ hj (fJ hk h)
  rw [nG, this, Bool.and_false]
def nrF (ax ay bx b_y tol : Int) (q : Int × Int) : Bool := !(wthn q.1 q.2 ax ay bx b_y (mx tol 0))
def subL (x : List (Int × Int)) (a n : Nat) : List (Int × Int) := (x.drop a).take n
theorem fY {x : List (Int × Int)} {a n : Nat} (h : a + n ≤ x.length) : (subL x a n).length = n := by unfold subL; rw [List.length_take, List.length_drop]; omega
theorem fZ {x : List (Int × Int)} {a n i : Nat} (hi : i < n) : (subL x a n).getD i (0, 0) = x.getD (a + i) (0, 0) := by
  unfold subL
  rw [List.getD_eq_getElem?_getD, List.getElem?_take_of_lt hi, List.getElem?_drop]; rfl
theorem ixS_no {f : Int × Int → Bool} {x : List (Int × Int)} {a n i : Nat} (h : a + n ≤ x.length) (hi : i < n) (hf : f (x.getD (a + i) (0, 0)) = false) : ixF f (subL x a n) (i + 1) = ixF f (subL x a n) i :=
  rQ (by rw [fY h]; exact hi) (by rw [fZ hi]; exact hf)
theorem nH {f : Int × Int → Bool} {x : List (Int × Int)} {a n i : Nat} (h : a + n ≤ x.length) (hi : i < n) (hf : f (x.getD (a + i) (0, 0)) = true) : ixF f (subL x a n) i = ((i : Nat) : Int) :=
  cZ (by rw [fY h]; exact hi) (by rw [fZ hi]; exact hf)
theorem nJ {f : Int × Int → Bool} {x : List (Int × Int)} {a n i : Nat} (h : a + n ≤ x.length) (hi : ¬ i < n) : ixF f (subL x a n) i = -1 := nK (by rw [fY h]; exact hi)
theorem nearB_any {tol : Int} {x : List (Int × Int)} {u v : Nat} : cS tol x u v = !((subL x (u + 1) (v - (u + 1))).any (nrF (x.getD u (0, 0)).1 (x.getD u (0, 0)).2 (x.getD v (0, 0)).1 (x.getD v (0, 0)).2 tol)) := by
  unfold cS subL nrF wth g2
  rw [List.all_eq_not_any_not]
/-- the first place of a point -/
theorem qB1 {p : Int × Int} {L : List (Int × Int)} {m : Nat} (hm : m < L.length) (he : L.getD m (0, 0) = p) : ∀ (n i : Nat), i + n = m → (∀ j, i ≤ j → j < m → L.getD j (0, 0) ≠ p) → ixF (eqTo p) L i = ((m : Nat) : Int)
  | 0, i, h, _ => by
    have : i = m := by omega
    subst this
    exact cZ hm ((eqTo_iff _ _).2 he.symm)
  | n + 1, i, h, hd => by
    have h1 : eqTo p (L.getD i (0, 0)) = false := by
      rw [← Bool.not_eq_true, eqTo_iff]; exact fun e => hd i (Nat.le_refl i) (by omega) e.symm
    rw [← rQ (by omega) h1]
    exact qB1 hm he n (i + 1) (by omega) (fun j hj hjm => hd j (by omega) hjm)
theorem ix_at {x : List (Int × Int)} {p : Int × Int} {a n m : Nat} (h : a + n ≤ x.length) (hm : m < n) (he : x.getD (a + m) (0, 0) = p) (hd : ∀ j, a ≤ j → j < a + m → x.getD j (0, 0) ≠ p) : ixF (eqTo p) (subL x a n) 0 = ((m : Nat) : Int) := by
  refine qB1 (by rw [fY h]; exact hm) (by rw [fZ hm]; exact he) m 0 (by omega) (fun j _ hj => ?_)
  rw [fZ (by omega)]
  exact hd (a + j) (by omega) (by omega)
section
variable {tol : Int} {N : List (List (Int × Int))} {i : Nat} {x kl : List (Int × Int)} {a f : Nat}
theorem s7 (hf : f + 1 < x.length) (h1 : cS tol x a (f + 1) = true) (h2 : mayB (N.set i (kl ++ x.drop f)) (kl ++ x.drop f) kl.length = true) : kp tol N i x (x.length + 1 - (f + 1)) kl a (f + 1) = kp tol N i x (x.length + 1 - f) kl a f := by
  rw [show x.length + 1 - f = (x.length + 1 - (f + 1)) + 1 by omega]
  conv => rhs; unfold kp
  rw [if_pos hf, h1, h2]; rfl
theorem fC (hf : f + 1 < x.length) (h : (cS tol x a (f + 1) && mayB (N.set i (kl ++ x.drop f)) (kl ++ x.drop f) kl.length) = false) : kp tol N i x (x.length + 1 - (f + 1)) (kl ++ [g2 x f]) f (f + 1) = kp tol N i x (x.length + 1 - f) kl a f := by
  rw [show x.length + 1 - f = (x.length + 1 - (f + 1)) + 1 by omega]
  conv => rhs; unfold kp
  rw [if_pos hf, h]; rfl
theorem kp_end (hf : ¬ f + 1 < x.length) (hl : f < x.length) : kl ++ x.drop f = kp tol N i x (x.length + 1 - f) kl a f := by
  rw [show x.length + 1 - f = (x.length - f) + 1 by omega]
  unfold kp
  rw [if_neg hf]
theorem qD6 (hf : f < x.length) : (kl ++ [g2 x f]) ++ x.drop (f + 1) = kl ++ x.drop f := by rw [drop_cons hf]; simp
theorem keep_p0 (hf : f < x.length) : (kl ++ x.drop f).getD kl.length (0, 0) = g2 x f := by
  have := app_get (K := kl) (L := x.drop f) (k := kl.length)
  rw [if_neg (by omega), Nat.sub_self, drop_get] at this
  exact this
theorem keep_p1 (hf : f + 1 < x.length) : (kl ++ x.drop f).getD (kl.length + 1) (0, 0) = g2 x (f + 1) := by
  have := app_get (K := kl) (L := x.drop f) (k := kl.length + 1)
  rw [if_neg (by omega), Nat.add_sub_cancel_left, drop_get] at this
  exact this
theorem keep_ix1 (h : Lines N) (hi : i < N.length) (hx : N.getD i [] = x) (haf : a < f) (hf : f + 1 < x.length) :
    ixF (eqTo (((kl ++ x.drop f).getD kl.length (0, 0)).1, ((kl ++ x.drop f).getD kl.length (0, 0)).2)) (subL x (a + 1) (x.length - (a + 1))) 0 = ((f - (a + 1) : Nat) : Int) := by
  rw [keep_p0 (by omega)]
  refine ix_at (by omega) (by omega) (by rw [show a + 1 + (f - (a + 1)) = f by omega]; rfl) (fun j h1 h2 => ?_)
  exact qE4 h hi hx (u := j) (v := f) (by omega) (by omega) (by omega)
theorem keep_ix2 (hf : f + 1 < x.length) :
    ixF (eqTo (((kl ++ x.drop f).getD (kl.length + 1) (0, 0)).1, ((kl ++ x.drop f).getD (kl.length + 1) (0, 0)).2)) (subL x (f + 1) (x.length - (f + 1))) 0 = ((0 : Nat) : Int) := by
  rw [keep_p1 hf]
  exact ix_at (by omega) (by omega) rfl (fun j h1 h2 => by omega)
theorem kp_mem : ∀ (n : Nat) (kl : List (Int × Int)) (a f : Nat), (∀ p ∈ kl, p ∈ x) → ∀ p ∈ kp tol N i x n kl a f, p ∈ x
  | 0, kl, a, f, h, p, hp => by
    unfold kp at hp
    rcases List.mem_append.1 hp with q | q
    · exact h p q
    · exact List.mem_of_mem_drop q
  | n + 1, kl, a, f, h, p, hp => by
    unfold kp at hp
    split at hp
    · rename_i hf
      split at hp
      · exact kp_mem n kl a (f + 1) h p hp
      · refine kp_mem n (kl ++ [g2 x f]) f (f + 1) (fun q hq => ?_) p hp
        rcases List.mem_append.1 hq with e | e
        · exact h q e
        · simp only [List.mem_cons, List.not_mem_nil, or_false] at e
          subst e; exact qB9 (by omega)
    · rcases List.mem_append.1 hp with q | q
      · exact h p q
      · exact List.mem_of_mem_drop q
end
theorem rP {tol : Int} {X : List (List (Int × Int))} (hs : ∀ j, j < X.length → 2 ≤ (X.getD j []).length) : ∀ n, n ≤ X.length → (gV tol X n).length = X.length ∧ ∀ j, ∀ p ∈ (gV tol X n).getD j [], p ∈ X.getD j []
  | 0, _ => ⟨rfl, fun j p h => h⟩
  | n + 1, hn => by
    obtain ⟨h1, h2⟩ := rP hs n (by omega)
    refine ⟨by show ((gV tol X n).set n _).length = _; rw [List.length_set]; exact h1, fun j p hp => ?_⟩
    have hz : p ∈ ((gV tol X n).set n (kp tol (gV tol X n) n (X.getD n []) (X.getD n []).length [g2 (X.getD n []) 0] 0 1)).getD j [] := hp
    rw [wN (by omega)] at hz
    split at hz
    · rename_i e
      subst e
      exact kp_mem _ _ _ _ (fun q hq => by
        simp only [List.mem_cons, List.not_mem_nil, or_false] at hq
        subst hq; exact qB9 (by have := hs n (by omega); omega)) p hz
    · exact h2 j p hz
/-- what holds of the lines behind i rounds -/
structure KR (tol : Int) (X : List (List (Int × Int))) (i : Nat) (N : List (List (Int × Int))) : Prop where
  eq : N = gV tol X i
  lines : Lines N
  len : N.length = X.length
  same : ∀ j, i ≤ j → N.getD j [] = X.getD j []
  thin : ∀ j, j < i → ThinL tol (X.getD j []) (N.getD j [])
  few : ∀ j, Few 1048576 (N.getD j [])
  sizes : ∀ j, j < N.length → 2 ≤ (N.getD j []).length ∧ (N.getD j []).length ≤ 200
theorem KR.of {tol : Int} {X N : List (List (Int × Int))} {i : Nat} (h : lnsE X = 0) (hi : i ≤ X.length) (e : N = gV tol X i) : KR tol X i N := by
  obtain ⟨h1, ho, _, hl⟩ := p7 h
  obtain ⟨s1, s2, s3, s4⟩ := keep_spec (tol := tol) hl i hi
  subst e
  refine ⟨rfl, s1, s2, s3, s4, fun j => uB (by decide) (fun q hq => wS (dG ho j) ((rP (fun j hj => (y7 (ho j hj)).1) i hi).2 j q hq)), fun j hj => ?_⟩
  rcases Nat.lt_or_ge j i with q | q
  · have := s4 j q
    exact ⟨this.two, Nat.le_trans this.len (y7 (ho j (by omega))).2.1⟩
  · rw [s3 j q]
    have := y7 (ho j (by omega))
    exact ⟨this.1, this.2.1⟩
/-- the lines as they stand in the loop over line i -/
theorem KI.few {tol : Int} {X N : List (List (Int × Int))} {i : Nat} {x kl : List (Int × Int)} {a f : Nat} (hR : KR tol X i N) (hi : i < N.length) (hx : N.getD i [] = x) (hm : ∀ p ∈ kl, p ∈ x) (j : Nat) : Few 1048576 ((N.set i (kl ++ x.drop f)).getD j []) := by
  rw [wN hi]
  split
  · have hf := hR.few i
    rw [hx] at hf
    refine uB (by decide) fun p hp => wS hf ?_
    rcases List.mem_append.1 hp with q | q
    · exact hm p q
    · exact List.mem_of_mem_drop q
  · exact hR.few j
theorem KI.sizes {tol : Int} {X N : List (List (Int × Int))} {i : Nat} {x kl : List (Int × Int)} {a f : Nat} (hR : KR tol X i N) (hi : i < N.length) (hx : N.getD i [] = x) (h : KI tol N i x kl a f) (j : Nat) (hj : j < (N.set i (kl ++ x.drop f)).length) : 2 ≤ ((N.set i (kl ++ x.drop f)).getD j []).length ∧ ((N.set i (kl ++ x.drop f)).getD j []).length ≤ 200 := by
  rw [List.length_set] at hj
  rw [wN hi]
  split
  · have h1 := hR.sizes i hi
    rw [hx] at h1
    have := h.k1; have := h.kf; have := h.fl
    rw [List.length_append, List.length_drop]; omega
  · exact hR.sizes j hj
theorem KR.next {tol : Int} {X N : List (List (Int × Int))} {u : Nat} {y : List (Int × Int)} (h : lnsE X = 0) (hR : KR tol X u N) (hu : u < X.length) (hY : y = kp tol N u (X.getD u []) (X.getD u []).length [g2 (X.getD u []) 0] 0 1) : KR tol X (u + 1) (N.set u y) := by
  refine .of h (by omega) ?_
  show _ = (gV tol X u).set u _
  rw [hY, hR.eq]
theorem nF {x kl : List (Int × Int)} {f : Nat} (h : ∀ p ∈ kl, p ∈ x) (hf : f < x.length) : ∀ p ∈ kl ++ [g2 x f], p ∈ x := fun p hp => by
  rcases List.mem_append.1 hp with q | q
  · exact h p q
  · simp only [List.mem_cons, List.not_mem_nil, or_false] at q
    subst q; exact qB9 hf
theorem and_f1 {a b : Bool} (h : a = false) : (a && b) = false := by rw [h]; rfl
theorem and_f2 {a b : Bool} (h : b = false) : (a && b) = false := by rw [h, Bool.and_false]
theorem KI.begin {tol : Int} {X N : List (List (Int × Int))} {u : Nat} (hR : KR tol X u N) (hu : u < N.length) : KI tol N u (X.getD u []) [g2 (X.getD u []) 0] 0 1 :=
  KI.start hR.lines hu (hR.same u (Nat.le_refl u))
theorem keep_y0 {x : List (Int × Int)} (h : 1 ≤ x.length) : [g2 x 0] ++ x.drop 1 = x := by
  have := drop_cons (x := x) (f := 0) (by omega)
  rw [List.drop_zero] at this
  exact this.symm
theorem keep_n0 {N : List (List (Int × Int))} {u : Nat} {y : List (Int × Int)} (h : u < N.length) (e : N.getD u [] = y) : N.set u y = N := by
  apply List.ext_getElem?
  intro j
  rw [List.getElem?_set]
  split
  · rename_i q; subst q
    rw [← e, List.getD_eq_getElem?_getD, List.getElem?_eq_getElem h]; first | rfl | (rw [if_pos h]; rfl)
  · rfl
theorem kp_init {tol : Int} {N : List (List (Int × Int))} {u : Nat} {x : List (Int × Int)} : kp tol N u x (x.length + 1 - 1) [g2 x 0] 0 1 = kp tol N u x x.length [g2 x 0] 0 1 := by rw [Nat.add_sub_cancel]
end Go.Proofs.Ytadifmimefmcnaa.Am.Sp
namespace Go.Proofs.Ytadifmimefmcnaa.Am
open Go Go.Proofs
theorem bE (x : List (Int × Int)) (k : Nat) (hk : 1 ≤ k ∧ k < x.length) (hz : x.length ≤ 4611686018427387904) (h1 : k ≠ 1) (h2 : k + 1 ≠ x.length) :
    AC Try.prog 130 1 ([.slice (some ⟨0, 0, none⟩) x.length 0, .int .i64 ((k : Nat) : Int)]) [(0, ⟨(x.flatMap ptc), 29, false, 2⟩)] (.slice none 0 0) [] := by
 refine qK Try.func130 (fun w0 W pin => ?_)
 refine aw_e 3 1 1<|aw_e 7 1 1<|qD 14 15<|aw_p 29 (
  .a 1 1 <| .p (qN false ((show (((k : Nat) : Int) == 1) = false from (by simp; omega)))) <| .nil _ _) ?_
 refine qP 59<|qH<|qD 30 31<|aw_p 61 (
  .a 3 1 <| .p (qJ (((x.length : Nat) : Int) - 1) (wrap_i64 oO oO) .i64) <| .p (qN false ((show (((k : Nat) : Int) == (((x.length : Nat) : Int) - 1)) = false from (by simp; omega)))) <| .nil _ _) ?_
 exact qP 123<|qH<|aw_e 63 2 1<|qF<|qB [.slice none 0 0] kK
theorem yU (x : List (Int × Int)) (k : Nat) (hk : 1 ≤ k ∧ k < x.length) (hz : x.length ≤ 4611686018427387904) (h1 : k ≠ 1) (h2 : k + 1 = x.length) :
    AC Try.prog 130 1 ([.slice (some ⟨0, 0, none⟩) x.length 0, .int .i64 ((k : Nat) : Int)]) [(0, ⟨(x.flatMap ptc), 29, false, 2⟩)] (.slice (some ⟨1, 0, none⟩) 1 0) [(1, ⟨[.int .i64 ((x.getD k (0, 0)).1), .int .i64 ((x.getD k (0, 0)).2)], 29, true, 2⟩)] := by
 refine qK Try.func130 (fun w0 W pin => ?_)
 refine aw_e 3 1 1<|aw_e 7 1 1<|qD 14 15<|aw_p 29 (
  .a 1 1 <| .p (qN false ((show (((k : Nat) : Int) == 1) = false from (by simp; omega)))) <| .nil _ _) ?_
 refine qP 59<|qH<|qD 30 31<|aw_p 61 (
  .a 3 1 <| .p (qJ (((x.length : Nat) : Int) - 1) (wrap_i64 oO oO) .i64) <| .p (qN true ((show (((k : Nat) : Int) == (((x.length : Nat) : Int) - 1)) = true from (by simp; omega)))) <| .nil _ _) ?_
 refine qR 122<|qW (
  .a 3 1 <| .p (iX 24 20 21 0 0 x.length 2 ((k : Nat) : Int) oO oO) <|
  .p (lD 29 22 0 (0 + (((k : Nat) : Int)).toNat * 2) ⟨(x.flatMap ptc), 29, false, 2⟩ (.agg #[.int .i64 ((x.getD k (0, 0)).1), .int .i64 ((x.getD k (0, 0)).2)]) (qL (j := k) kK kK oO oO)) <|
  .a 1 1 <| .p (jQ 2) <| .e 1 3) ?_
 refine aw_e 63 2 3<|aw_r [(1, 2)] [(4, .slice (some ⟨2, 0, none⟩) 1 0)] [(0, ⟨(x.flatMap ptc), 29, false, 2⟩), (2, ⟨[.int .i64 ((x.getD k (0, 0)).1), .int .i64 ((x.getD k (0, 0)).2)], 29, true, 2⟩)] [(4, .slice (some ⟨1, 0, none⟩) 1 0)] [(0, ⟨(x.flatMap ptc), 29, false, 2⟩), (1, ⟨[.int .i64 ((x.getD k (0, 0)).1), .int .i64 ((x.getD k (0, 0)).2)], 29, true, 2⟩)] ?_ ⟨rfl, (.slice _ _ _ _ _ rfl), trivial⟩ ⟨rfl, ⟨rfl, rfl, rfl, (.flats (qA _))⟩, rfl, ⟨rfl, rfl, rfl, (.flats kK)⟩, trivial⟩
 exact qF<|qB [.slice (some ⟨1, 0, none⟩) 1 0] kK
theorem yT (x : List (Int × Int)) (k : Nat) (hk : 1 ≤ k ∧ k < x.length) (hz : x.length ≤ 4611686018427387904) (h1 : k = 1) (h2 : k + 1 ≠ x.length) :
    AC Try.prog 130 1 ([.slice (some ⟨0, 0, none⟩) x.length 0, .int .i64 ((k : Nat) : Int)]) [(0, ⟨(x.flatMap ptc), 29, false, 2⟩)] (.slice (some ⟨1, 0, none⟩) 1 0) [(1, ⟨[.int .i64 ((x.getD 0 (0, 0)).1), .int .i64 ((x.getD 0 (0, 0)).2)], 29, true, 2⟩)] := by
 refine qK Try.func130 (fun w0 W pin => ?_)
 refine aw_e 3 1 1<|aw_e 7 1 1<|qD 14 15<|aw_p 29 (
  .a 1 1 <| .p (qN true ((show (((k : Nat) : Int) == 1) = true from (by simp; omega)))) <| .nil _ _) ?_
 refine qR 58<|qW (
  .a 2 1 <| .p (q7 (t := 24) (x := .tmp 9) (y := .const (.int .i64 0)) (k := 0) (off := 0) (n := x.length) (c := 0) (z := 2) (kd := .i64) (j := 0) kK kK kK kK kK oO oO) <|
  .p (lD 29 10 0 0 ⟨(x.flatMap ptc), 29, false, 2⟩ (.agg #[.int .i64 ((x.getD 0 (0, 0)).1), .int .i64 ((x.getD 0 (0, 0)).2)]) (qL (j := 0) kK kK oO oO)) <|
  .a 1 1 <| .p (jQ 2) <| .e 1 3) ?_
 refine qD 30 31<|aw_p 61 (
  .a 3 3 <| .p (qJ (((x.length : Nat) : Int) - 1) (wrap_i64 oO oO) .i64) <| .p (qN false ((show (((k : Nat) : Int) == (((x.length : Nat) : Int) - 1)) = false from (by simp; omega)))) <| .nil _ _) ?_
 refine qP 123<|qH<|aw_e 63 2 3<|aw_r [(1, 2)] [(4, .slice (some ⟨2, 0, none⟩) 1 0)] [(0, ⟨(x.flatMap ptc), 29, false, 2⟩), (2, ⟨[.int .i64 ((x.getD 0 (0, 0)).1), .int .i64 ((x.getD 0 (0, 0)).2)], 29, true, 2⟩)] [(4, .slice (some ⟨1, 0, none⟩) 1 0)] [(0, ⟨(x.flatMap ptc), 29, false, 2⟩), (1, ⟨[.int .i64 ((x.getD 0 (0, 0)).1), .int .i64 ((x.getD 0 (0, 0)).2)], 29, true, 2⟩)] ?_ ⟨rfl, (.slice _ _ _ _ _ rfl), trivial⟩ ⟨rfl, ⟨rfl, rfl, rfl, (.flats (qA _))⟩, rfl, ⟨rfl, rfl, rfl, (.flats kK)⟩, trivial⟩
 exact qF<|qB [.slice (some ⟨1, 0, none⟩) 1 0] kK
theorem yS (x : List (Int × Int)) (k : Nat) (hk : 1 ≤ k ∧ k < x.length) (hz : x.length ≤ 4611686018427387904) (h1 : k = 1) (h2 : k + 1 = x.length) :
    AC Try.prog 130 1 ([.slice (some ⟨0, 0, none⟩) x.length 0, .int .i64 ((k : Nat) : Int)]) [(0, ⟨(x.flatMap ptc), 29, false, 2⟩)] (.slice (some ⟨1, 0, none⟩) 2 0) [(1, ⟨[.int .i64 ((x.getD 0 (0, 0)).1), .int .i64 ((x.getD 0 (0, 0)).2), .int .i64 ((x.getD k (0, 0)).1), .int .i64 ((x.getD k (0, 0)).2)], 29, true, 2⟩)] := by
 refine qK Try.func130 (fun w0 W pin => ?_)
 refine aw_e 3 1 1<|aw_e 7 1 1<|qD 14 15<|aw_p 29 (
  .a 1 1 <| .p (qN true ((show (((k : Nat) : Int) == 1) = true from (by simp; omega)))) <| .nil _ _) ?_
 refine qR 58<|qW (
  .a 2 1 <| .p (q7 (t := 24) (x := .tmp 9) (y := .const (.int .i64 0)) (k := 0) (off := 0) (n := x.length) (c := 0) (z := 2) (kd := .i64) (j := 0) kK kK kK kK kK oO oO) <|
  .p (lD 29 10 0 0 ⟨(x.flatMap ptc), 29, false, 2⟩ (.agg #[.int .i64 ((x.getD 0 (0, 0)).1), .int .i64 ((x.getD 0 (0, 0)).2)]) (qL (j := 0) kK kK oO oO)) <|
  .a 1 1 <| .p (jQ 2) <| .e 1 3) ?_
 refine qD 30 31<|aw_p 61 (
  .a 3 3 <| .p (qJ (((x.length : Nat) : Int) - 1) (wrap_i64 oO oO) .i64) <| .p (qN true ((show (((k : Nat) : Int) == (((x.length : Nat) : Int) - 1)) = true from (by simp; omega)))) <| .nil _ _) ?_
 refine qR 122<|qW (
  .a 3 3 <| .p (iX 24 20 21 0 0 x.length 2 ((k : Nat) : Int) oO oO) <|
  .p (lD 29 22 0 (0 + (((k : Nat) : Int)).toNat * 2) ⟨(x.flatMap ptc), 29, false, 2⟩ (.agg #[.int .i64 ((x.getD k (0, 0)).1), .int .i64 ((x.getD k (0, 0)).2)]) (qL (j := k) kK kK oO oO)) <|
  .a 1 3 <| .p (jQ 4) <| .e 1 5) ?_
 refine aw_e 63 2 5<|aw_r [(1, 4)] [(4, .slice (some ⟨4, 0, none⟩) 2 0)] [(0, ⟨(x.flatMap ptc), 29, false, 2⟩), (4, ⟨[.int .i64 ((x.getD 0 (0, 0)).1), .int .i64 ((x.getD 0 (0, 0)).2), .int .i64 ((x.getD k (0, 0)).1), .int .i64 ((x.getD k (0, 0)).2)], 29, true, 2⟩)] [(4, .slice (some ⟨1, 0, none⟩) 2 0)] [(0, ⟨(x.flatMap ptc), 29, false, 2⟩), (1, ⟨[.int .i64 ((x.getD 0 (0, 0)).1), .int .i64 ((x.getD 0 (0, 0)).2), .int .i64 ((x.getD k (0, 0)).1), .int .i64 ((x.getD k (0, 0)).2)], 29, true, 2⟩)] ?_ ⟨rfl, (.slice _ _ _ _ _ rfl), trivial⟩ ⟨rfl, ⟨rfl, rfl, rfl, (.flats (qA _))⟩, rfl, ⟨rfl, rfl, rfl, (.flats kK)⟩, trivial⟩
 exact qF<|qB [.slice (some ⟨1, 0, none⟩) 2 0] kK
end Go.Proofs.Ytadifmimefmcnaa.Am
