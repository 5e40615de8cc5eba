import Derived.Test.YthflpnpnlpaigaaNc5
set_option linter.unusedVariables false
set_option linter.unusedSimpArgs false
namespace Go.Proofs.Ythflpnpnlpaigaa.Am.Sp
/-! spans of small numbers; rounded outward -/
def ml (x y : Int) : Rat := rmin (numb x) (numb y)
def mh (x y : Int) : Rat := rmax (numb x) (numb y)
theorem ml_bd (x y : Int) : Bd 70 7 (ml x y) := (Bd.min (numb_bd x) (numb_bd y)).mono (by decide) (by decide)
theorem mh_bd (x y : Int) : Bd 70 7 (mh x y) := (Bd.max (numb_bd x) (numb_bd y)).mono (by decide) (by decide)
theorem ml_le (x y : Int) : ml x y ≤ mh x y := rmin_max _ _
def oL (q : Rat) (n : Int) : Rat := ((Rat.floor (q * ((n : Int) : Rat)) : Int) : Rat) / ((n : Int) : Rat)
def oH (q : Rat) (n : Int) : Rat := ((-Rat.floor ((-q) * ((n : Int) : Rat)) : Int) : Rat) / ((n : Int) : Rat)
theorem cast_pos {n : Int} (h : 1 ≤ n) : (0 : Rat) < ((n : Int) : Rat) := by
  have := Rat.intCast_le_intCast.2 h
  have e : ((1 : Int) : Rat) = 1 := rfl
  grind
theorem fl_le (q : Rat) : ((q.floor : Int) : Rat) ≤ q := Rat.floor_le q
theorem fl_lt (q : Rat) : q < ((q.floor : Int) : Rat) + 1 := by
  have := Rat.lt_floor_add_one q; rw [Rat.intCast_add] at this; exact this
theorem fl_int (k : Int) : (((k : Int) : Rat)).floor = k := Rat.floor_intCast k
theorem div_mul {a n : Rat} (h : 0 < n) : a / n * n = a := by grind
theorem oL_le {q : Rat} {n : Int} (h : 1 ≤ n) : oL q n ≤ q := by
  unfold oL; have hp := cast_pos h; have := fl_le (q * ((n : Int) : Rat))
  refine Rat.not_lt.1 fun h1 => ?_
  rw [Rat.lt_div_iff hp] at h1; grind
theorem oH_neg {q : Rat} {n : Int} : oH q n = -oL (-q) n := by
  unfold oH oL; rw [Rat.intCast_neg]; grind
theorem oH_ge {q : Rat} {n : Int} (h : 1 ≤ n) : q ≤ oH q n := by
  rw [oH_neg]; have := oL_le (q := -q) h; grind
theorem oL_lt {q : Rat} {n : Int} (h : 1 ≤ n) : q + -(oL q n) < ((1 : Int) : Rat) / ((n : Int) : Rat) := by
  have hp := cast_pos h; have h1 := fl_lt (q * ((n : Int) : Rat)); have e : ((1 : Int) : Rat) = 1 := rfl
  have h2 : q + -(oL q n) = (q * ((n : Int) : Rat) - ((Rat.floor (q * ((n : Int) : Rat)) : Int) : Rat)) / ((n : Int) : Rat) := by unfold oL; grind
  rw [h2, e, Rat.div_lt_iff hp, div_mul hp]; grind
theorem oH_lt {q : Rat} {n : Int} (h : 1 ≤ n) : oH q n + -q < ((1 : Int) : Rat) / ((n : Int) : Rat) := by
  have := oL_lt (q := -q) h
  rw [oH_neg, Rat.add_comm]; grind
theorem oL_idem {q : Rat} {n : Int} (h : 1 ≤ n) : oL (oL q n) n = oL q n := by
  have hp := cast_pos h
  have : oL q n * ((n : Int) : Rat) = ((Rat.floor (q * ((n : Int) : Rat)) : Int) : Rat) := by unfold oL; exact div_mul hp
  show ((Rat.floor (oL q n * ((n : Int) : Rat)) : Int) : Rat) / ((n : Int) : Rat) = _
  rw [this, fl_int]; rfl
theorem oH_idem {q : Rat} {n : Int} (h : 1 ≤ n) : oH (oH q n) n = oH q n := by
  rw [oH_neg (q := oH q n), oH_neg (q := q), Rat.neg_neg, oL_idem h]
theorem meet_sub (l h m n : Rat) : meetS l h m n = inS (l + -n) (h + -m) ((0 : Int) : Rat) := by
  have e : ((0 : Int) : Rat) = 0 := rfl
  unfold meetS inS; rw [e, Bool.eq_iff_iff]; simp only [Bool.and_eq_true, decide_eq_true_eq]; grind
theorem meet_comm (l h m n : Rat) : meetS l h m n = meetS m n l h := by unfold meetS; rw [Bool.and_comm]
theorem rmin_comm (a b : Rat) : rmin a b = rmin b a := by unfold rmin; grind
theorem rmax_comm (a b : Rat) : rmax a b = rmax b a := by unfold rmax; grind
theorem bd_le {N D : Nat} {q : Rat} (h : Bd N D q) : -((N : Int) : Rat) ≤ q ∧ q ≤ ((N : Int) : Rat) := by
  obtain ⟨h1, h2⟩ := h
  have hd := q.den_pos
  have e : q = Rat.divInt q.num (q.den : Int) := (rat_self q).symm
  have hp : (0 : Rat) < ((q.den : Int) : Rat) := cast_pos (by omega)
  have e2 : q = ((q.num : Int) : Rat) / ((q.den : Int) : Rat) := by rw [← Rat.divInt_eq_div]; exact e
  have ha : q.num ≤ (N : Int) * (q.den : Int) := by
    have : (N : Int) ≤ (N : Int) * (q.den : Int) := by
      have := Int.mul_le_mul_of_nonneg_left (show (1 : Int) ≤ (q.den : Int) by omega) (show (0 : Int) ≤ (N : Int) by omega); omega
    omega
  have hb : -((N : Int) * (q.den : Int)) ≤ q.num := by
    have : (N : Int) ≤ (N : Int) * (q.den : Int) := by
      have := Int.mul_le_mul_of_nonneg_left (show (1 : Int) ≤ (q.den : Int) by omega) (show (0 : Int) ≤ (N : Int) by omega); omega
    omega
  have ha' := Rat.intCast_le_intCast.2 ha; have hb' := Rat.intCast_le_intCast.2 hb
  rw [Rat.intCast_neg] at hb'
  rw [Rat.intCast_mul] at ha' hb'
  have e3 : q * ((q.den : Int) : Rat) = ((q.num : Int) : Rat) := (congrArg (· * ((q.den : Int) : Rat)) e2).trans (div_mul hp)
  constructor
  · refine Rat.le_of_mul_le_mul_right ?_ hp; rw [e3]; grind
  · refine Rat.le_of_mul_le_mul_right ?_ hp; rw [e3]; exact ha'
theorem oL_bd {q : Rat} {n : Int} {N D : Nat} (h : Bd N D q) (h0 : 1 ≤ n) (h1 : n ≤ 50) : Bd (N * 50 + 1) 50 (oL q n) := by
  unfold oL; rw [← Rat.divInt_eq_div]
  refine Bd.mono (bd_divInt (by omega)) ?_ (by omega)
  have hb := bd_le h; have hp := cast_pos h0
  have h2 : ((n : Int) : Rat) ≤ ((50 : Int) : Rat) := Rat.intCast_le_intCast.2 h1
  have f1 := fl_le (q * ((n : Int) : Rat)); have f2 := fl_lt (q * ((n : Int) : Rat))
  have hN : (0 : Rat) ≤ ((N : Int) : Rat) := Rat.intCast_le_intCast.2 (show (0 : Int) ≤ (N : Int) by omega)
  have u1 : q * ((n : Int) : Rat) ≤ ((N : Int) : Rat) * ((n : Int) : Rat) := Rat.mul_le_mul_of_nonneg_right hb.2 (by grind)
  have u2 : (-((N : Int) : Rat)) * ((n : Int) : Rat) ≤ q * ((n : Int) : Rat) := Rat.mul_le_mul_of_nonneg_right hb.1 (by grind)
  have u3 : ((N : Int) : Rat) * ((n : Int) : Rat) ≤ ((N : Int) : Rat) * ((50 : Int) : Rat) := Rat.mul_le_mul_of_nonneg_left h2 hN
  have k1 : ((Rat.floor (q * ((n : Int) : Rat)) : Int) : Rat) ≤ ((N * 50 : Int) : Rat) := by rw [Rat.intCast_mul]; grind
  have k2 : ((-(N * 50) - 1 : Int) : Rat) ≤ ((Rat.floor (q * ((n : Int) : Rat)) : Int) : Rat) := by
    rw [Rat.intCast_sub, Rat.intCast_neg, Rat.intCast_mul]
    have e : ((1 : Int) : Rat) = 1 := rfl
    grind
  have k1' := Rat.intCast_le_intCast.1 k1; have k2' := Rat.intCast_le_intCast.1 k2
  omega
theorem oH_bd {q : Rat} {n : Int} {N D : Nat} (h : Bd N D q) (h0 : 1 ≤ n) (h1 : n ≤ 50) : Bd (N * 50 + 1) 50 (oH q n) := by
  rw [oH_neg]; exact (oL_bd h.neg h0 h1).neg
theorem den_bd {n : Int} (h0 : 1 ≤ n) (h1 : n ≤ 50) : Bd 50 1 ((n : Int) : Rat) := (Bd.int n).mono (by omega) (by decide)
theorem cast_ne1 {n : Int} (h : 1 ≤ n) : ((n : Int) : Rat) ≠ 0 := by have := cast_pos h; grind
end Go.Proofs.Ythflpnpnlpaigaa.Am.Sp
