/-
  The walks of small functions of points, of the stream and of small.
-/
import Derived.Test.YtomnkdlfmjdckaaProg
import Derived.Test.YtomnkdlfmjdckaaAm16
import Derived.Test.YtomnkdlfmjdckaaSp6
namespace Go.Proofs.Ytomnkdlfmjdckaa.Am
open Go Go.Proofs
set_option maxRecDepth 100000
set_option maxHeartbeats 4000000
set_option linter.unusedVariables false
set_option linter.unusedSimpArgs false

theorem limit_ok (n m : Int) (h0 : 0 ≤ m) (h1 : m ≤ 4611686018427387904) :
    AC Try.prog 56 0 ([.int .i64 n, .int .i64 m]) [] (.int .i64 (Sp.lim m n)) [] := by
  refine ac_in Try.func56 (fun w0 W pin => ?_)
  refine aw_p 3 (
    .a 1 1 <| .nil _ _) ?_
  refine aw_p 7 (
    .a 1 1 <| .p (does_i (0 - m) (wrap_i64 (by omega) (by omega)) .i64) <| .a 5 1 <| .nil _ _) ?_
  refine aw_rt ?_
  exact en_ret [.int .i64 (if (if m < n then m else n) > (0 - m) then (if m < n then m else n) else (0 - m))] (show (.int .i64 (if (if m < n then m else n) > (0 - m) then (if m < n then m else n) else (0 - m)) : Value) = (.int .i64 (Sp.lim m n)) from (congrArg (Value.int .i64) (show (if (if m < n then m else n) > (0 - m) then (if m < n then m else n) else (0 - m)) = (Sp.lim m n) from by (first | rfl | (simp only [Sp.lim, Sp.cmp, Sp.sgn]; (repeat' split) <;> omega)))))

theorem clamp_ok (x y : Int) :
    AC Try.prog 28 0 ([.agg #[.int .i64 x, .int .i64 y]]) [] (.agg #[.int .i64 (Sp.lim 1048576 x), .int .i64 (Sp.lim 1048576 y)]) [] := by
  refine ac_in Try.func28 (fun w0 W pin => ?_)
  refine aw_p 3 (
    .a 2 1 <| .nil _ _) ?_
  refine aw_d 7 (
    .a 2 3 <| .p (does_c (limit_ok x 1048576 (by decide) (by decide))) <| .a 2 3 <| .p (does_c (limit_ok y 1048576 (by decide) (by decide))) <| .a 2 3 <| .nil _ _) ?_
  refine aw_rt ?_
  exact en_ret [.agg #[.int .i64 (Sp.lim 1048576 x), .int .i64 (Sp.lim 1048576 y)]] (by kernel_rfl)

theorem pok_ok (x y : Int) :
    AC Try.prog 38 0 ([.agg #[.int .i64 x, .int .i64 y]]) [] (.bool ((x == (Sp.lim 1048576 x)) && ((y == (Sp.lim 1048576 y)) && true))) [] := by
  refine ac_in Try.func38 (fun w0 W pin => ?_)
  refine aw_p 3 (
    .a 2 1 <| .nil _ _) ?_
  refine aw_d 7 (
    .a 2 2 <| .p (does_c (clamp_ok x y)) <| .p (does_e ((x == (Sp.lim 1048576 x)) && ((y == (Sp.lim 1048576 y)) && true)) (rfl)) <| .a 1 2 <| .nil _ _) ?_
  refine aw_rt ?_
  exact en_ret [.bool ((x == (Sp.lim 1048576 x)) && ((y == (Sp.lim 1048576 y)) && true))] (by kernel_rfl)

theorem isnan_ok (x : Int) :
    AC Try.prog 73 0 ([.int .i64 x]) [] (.bool false) [] := by
  refine ac_in Try.func73 (fun w0 W pin => ?_)
  refine aw_p 3 (
    .a 1 1 <| .nil _ _) ?_
  refine aw_p 7 (
    .a 2 1 <| .p (does_b false ((show (x != x) = false from by simp))) <| .a 1 1 <| .nil _ _) ?_
  refine aw_rt ?_
  exact en_ret [.bool false] (by kernel_rfl)

theorem compare_ok (x y : Int) :
    AC Try.prog 58 0 ([.int .i64 x, .int .i64 y]) [] (.int .i64 (Sp.cmp x y)) [] := by
  refine ac_in Try.func58 (fun w0 W pin => ?_)
  refine aw_p 3 (
    .a 1 1 <| .nil _ _) ?_
  refine aw_p 7 (
    .a 1 1 <| .p (does_c (isnan_ok x)) <| .a 1 1 <| .nil _ _) ?_
  refine aw_p 15 (
    .a 1 1 <| .p (does_c (isnan_ok y)) <| .a 1 1 <| .nil _ _) ?_
  refine aw_sq 30 31 ?_
  refine aw_p 61 (
    .a 1 1 <| .nil _ _) ?_
  refine aw_fl 123 ?_
  refine aw_sk ?_
  refine then_normal ?_
  refine aw_sq 62 63 ?_
  refine aw_p 125 (
    .a 1 1 <| .nil _ _) ?_
  refine aw_fl 251 ?_
  refine aw_sk ?_
  refine then_normal ?_
  refine aw_sq 126 127 ?_
  refine aw_p 253 (
    .a 3 1 <| .nil _ _) ?_
  refine aw_cd 506 507 (decide (x < y)) (fun h1 => ?_) (fun h1 => ?_)
  · have h1p : ((x < y)) := by first | (simpa using h1) | (have h1q := h1; simp at h1q; omega) | (have h1q := bx1 h1; simp at h1q; omega)
    refine aw_p 1013 (
      .a 1 1 <| .nil _ _) ?_
    refine aw_rt ?_
    refine then_ret ?_
    exact en_ret [.int .i64 (-1)] (show (.int .i64 (-1) : Value) = (.int .i64 (Sp.cmp x y)) from (congrArg (Value.int .i64) (show (-1) = (Sp.cmp x y) from by (simp only [decide_eq_true_eq, decide_eq_false_iff_not] at *; simp only [Sp.lim, Sp.cmp, Sp.sgn]; (repeat' split) <;> omega))))
  · have h1p : ¬ ((x < y)) := by first | (simpa using h1) | (have h1q := h1; simp at h1q; omega) | (have h1q := bx2 h1; simp at h1q; omega)
    refine aw_sk ?_
    refine then_normal ?_
    refine aw_sq 254 255 ?_
    refine aw_p 509 (
      .a 3 1 <| .nil _ _) ?_
    refine aw_cd 1018 1019 (decide (x > y)) (fun h2 => ?_) (fun h2 => ?_)
    · have h2p : ((x > y)) := by first | (simpa using h2) | (have h2q := h2; simp at h2q; omega) | (have h2q := bx1 h2; simp at h2q; omega)
      refine aw_p 2037 (
        .a 1 1 <| .nil _ _) ?_
      refine aw_rt ?_
      refine then_ret ?_
      exact en_ret [.int .i64 1] (show (.int .i64 1 : Value) = (.int .i64 (Sp.cmp x y)) from (congrArg (Value.int .i64) (show 1 = (Sp.cmp x y) from by (simp only [decide_eq_true_eq, decide_eq_false_iff_not] at *; simp only [Sp.lim, Sp.cmp, Sp.sgn]; (repeat' split) <;> omega))))
    · have h2p : ¬ ((x > y)) := by first | (simpa using h2) | (have h2q := h2; simp at h2q; omega) | (have h2q := bx2 h2; simp at h2q; omega)
      refine aw_sk ?_
      refine then_normal ?_
      refine aw_p 511 (
        .a 1 1 <| .nil _ _) ?_
      refine aw_rt ?_
      exact en_ret [.int .i64 0] (show (.int .i64 0 : Value) = (.int .i64 (Sp.cmp x y)) from (congrArg (Value.int .i64) (show 0 = (Sp.cmp x y) from by (simp only [decide_eq_true_eq, decide_eq_false_iff_not] at *; simp only [Sp.lim, Sp.cmp, Sp.sgn]; (repeat' split) <;> omega))))

theorem below_ok (x n : Int) (h0 : 0 < n) (hz : n ≤ 9223372036854775807) :
    AC Try.prog 54 0 ([.int .i64 x, .int .i64 n]) [] (.int .i64 (x % n)) [] := by
  have hlo := Sp.tmod_lo (x := x) h0
  refine ac_in Try.func54 (fun w0 W pin => ?_)
  refine aw_p 3 (
    .a 1 1 <| .nil _ _) ?_
  refine aw_p 7 (
    .a 2 1 <| .p (does_rem (t := 3) (t2 := 3) (x := .tmp 5) (y := .tmp 6) (k := .i64) (a := x) (b := n) (by kernel_rfl) (by kernel_rfl) (by kernel_rfl) (by omega)) <| .a 1 1 <| .nil _ _) ?_
  refine aw_sq 14 15 ?_
  refine aw_p 29 (
    .a 2 1 <| .nil _ _) ?_
  refine aw_cd 58 59 (decide ((Int.tmod x n) < 0)) (fun h1 => ?_) (fun h1 => ?_)
  · have h1p : (((Int.tmod x n) < 0)) := by first | (simpa using h1) | (have h1q := h1; simp at h1q; omega) | (have h1q := bx1 h1; simp at h1q; omega)
    refine aw_p1 (
      .a 2 1 <| .p (does_i ((Int.tmod x n) + n) (wrap_i64 (by omega) (by omega)) .i64) <| .a 1 1 <| .nil _ _) ?_
    refine then_normal ?_
    refine aw_p 31 (
      .a 2 1 <| .nil _ _) ?_
    refine aw_rt ?_
    exact en_ret [.int .i64 ((Int.tmod x n) + n)] (show (.int .i64 ((Int.tmod x n) + n) : Value) = (.int .i64 (x % n)) from (congrArg (Value.int .i64) (show ((Int.tmod x n) + n) = (x % n) from by (first | exact Sp.below_neg h0 (by assumption) | exact Sp.below_pos h0 (by omega)))))
  · have h1p : ¬ (((Int.tmod x n) < 0)) := by first | (simpa using h1) | (have h1q := h1; simp at h1q; omega) | (have h1q := bx2 h1; simp at h1q; omega)
    refine aw_sk ?_
    refine then_normal ?_
    refine aw_p 31 (
      .a 2 1 <| .nil _ _) ?_
    refine aw_rt ?_
    exact en_ret [.int .i64 (Int.tmod x n)] (show (.int .i64 (Int.tmod x n) : Value) = (.int .i64 (x % n)) from (congrArg (Value.int .i64) (show (Int.tmod x n) = (x % n) from by (first | exact Sp.below_neg h0 (by assumption) | exact Sp.below_pos h0 (by omega)))))

theorem way_ok (ax ay bx b_y : Int) :
    AC Try.prog 62 0 ([.agg #[.int .i64 ax, .int .i64 ay], .agg #[.int .i64 bx, .int .i64 b_y]]) [] (.agg #[.int .i64 (Sp.lim 1048576 bx - Sp.lim 1048576 ax), .int .i64 (Sp.lim 1048576 b_y - Sp.lim 1048576 ay)]) [] := by
  have q1 := Sp.lim_bd (m := 1048576) (by decide) ax; have q2 := Sp.lim_bd (m := 1048576) (by decide) ay; have q3 := Sp.lim_bd (m := 1048576) (by decide) bx; have q4 := Sp.lim_bd (m := 1048576) (by decide) b_y
  refine ac_in Try.func62 (fun w0 W pin => ?_)
  refine aw_p 3 (
    .a 3 1 <| .nil _ _) ?_
  refine aw_d 7 (
    .a 1 4 <| .p (does_c (clamp_ok ax ay)) <| .a 1 4 <| .p (does_c (clamp_ok bx b_y)) <| .a 2 4 <| .nil _ _) ?_
  refine aw_p 15 (
    .a 4 4 <| .p (does_i ((Sp.lim 1048576 bx) - (Sp.lim 1048576 ax)) (wrap_i64 (by omega) (by omega)) .i64) <| .a 4 4 <| .p (does_i ((Sp.lim 1048576 b_y) - (Sp.lim 1048576 ay)) (wrap_i64 (by omega) (by omega)) .i64) <| .a 2 4 <| .nil _ _) ?_
  refine aw_rt ?_
  exact en_ret [.agg #[.int .i64 ((Sp.lim 1048576 bx) - (Sp.lim 1048576 ax)), .int .i64 ((Sp.lim 1048576 b_y) - (Sp.lim 1048576 ay))]] (show (.agg #[.int .i64 ((Sp.lim 1048576 bx) - (Sp.lim 1048576 ax)), .int .i64 ((Sp.lim 1048576 b_y) - (Sp.lim 1048576 ay))] : Value) = (.agg #[.int .i64 (Sp.lim 1048576 bx - Sp.lim 1048576 ax), .int .i64 (Sp.lim 1048576 b_y - Sp.lim 1048576 ay)]) from (congrArg (fun z : List Value => Value.agg z.toArray) (lcons (congrArg (Value.int .i64) (show ((Sp.lim 1048576 bx) - (Sp.lim 1048576 ax)) = (Sp.lim 1048576 bx - Sp.lim 1048576 ax) from by rfl)) (lcons (congrArg (Value.int .i64) (show ((Sp.lim 1048576 b_y) - (Sp.lim 1048576 ay)) = (Sp.lim 1048576 b_y - Sp.lim 1048576 ay) from by rfl)) rfl))))

theorem cross_ok (ax ay bx b_y cx cy : Int) :
    AC Try.prog 40 0 ([.agg #[.int .i64 ax, .int .i64 ay], .agg #[.int .i64 bx, .int .i64 b_y], .agg #[.int .i64 cx, .int .i64 cy]]) [] (.int .i64 (Sp.crs (Sp.lim 1048576 ax) (Sp.lim 1048576 ay) (Sp.lim 1048576 bx) (Sp.lim 1048576 b_y) (Sp.lim 1048576 cx) (Sp.lim 1048576 cy))) [] := by
  have qax := Sp.lim_bd (m := 1048576) (by decide) ax; have qay := Sp.lim_bd (m := 1048576) (by decide) ay; have qbx := Sp.lim_bd (m := 1048576) (by decide) bx; have qb_y := Sp.lim_bd (m := 1048576) (by decide) b_y; have qcx := Sp.lim_bd (m := 1048576) (by decide) cx; have qcy := Sp.lim_bd (m := 1048576) (by decide) cy; have p0 := Sp.mul_bd (a := Sp.lim 1048576 bx - Sp.lim 1048576 ax) (b := Sp.lim 1048576 cy - Sp.lim 1048576 ay) (A := 2097152) (B := 2097152) (by omega) (by omega) (by omega) (by omega); have p1 := Sp.mul_bd (a := Sp.lim 1048576 b_y - Sp.lim 1048576 ay) (b := Sp.lim 1048576 cx - Sp.lim 1048576 ax) (A := 2097152) (B := 2097152) (by omega) (by omega) (by omega) (by omega)
  refine ac_in Try.func40 (fun w0 W pin => ?_)
  refine aw_p 3 (
    .a 4 1 <| .nil _ _) ?_
  refine aw_d 7 (
    .a 2 4 <| .p (does_c (way_ok ax ay bx b_y)) <| .a 2 4 <| .p (does_c (way_ok ax ay cx cy)) <| .a 4 4 <| .nil _ _) ?_
  refine aw_p 15 (
    .a 4 6 <| .p (does_i ((Sp.lim 1048576 bx - Sp.lim 1048576 ax) * (Sp.lim 1048576 cy - Sp.lim 1048576 ay)) (wrap_i64 (by omega) (by omega)) .i64) <| .a 4 6 <| .p (does_i ((Sp.lim 1048576 b_y - Sp.lim 1048576 ay) * (Sp.lim 1048576 cx - Sp.lim 1048576 ax)) (wrap_i64 (by omega) (by omega)) .i64) <|
    .p (does_i (((Sp.lim 1048576 bx - Sp.lim 1048576 ax) * (Sp.lim 1048576 cy - Sp.lim 1048576 ay)) - ((Sp.lim 1048576 b_y - Sp.lim 1048576 ay) * (Sp.lim 1048576 cx - Sp.lim 1048576 ax))) (wrap_i64 (by omega) (by omega)) .i64) <| .a 1 6 <| .nil _ _) ?_
  refine aw_w [(6, .int .i64 (((Sp.lim 1048576 bx - Sp.lim 1048576 ax) * (Sp.lim 1048576 cy - Sp.lim 1048576 ay)) - ((Sp.lim 1048576 b_y - Sp.lim 1048576 ay) * (Sp.lim 1048576 cx - Sp.lim 1048576 ax))))] [] ?_
  refine aw_rt ?_
  exact en_ret [.int .i64 (((Sp.lim 1048576 bx - Sp.lim 1048576 ax) * (Sp.lim 1048576 cy - Sp.lim 1048576 ay)) - ((Sp.lim 1048576 b_y - Sp.lim 1048576 ay) * (Sp.lim 1048576 cx - Sp.lim 1048576 ax)))] (show (.int .i64 (((Sp.lim 1048576 bx - Sp.lim 1048576 ax) * (Sp.lim 1048576 cy - Sp.lim 1048576 ay)) - ((Sp.lim 1048576 b_y - Sp.lim 1048576 ay) * (Sp.lim 1048576 cx - Sp.lim 1048576 ax))) : Value) = (.int .i64 (Sp.crs (Sp.lim 1048576 ax) (Sp.lim 1048576 ay) (Sp.lim 1048576 bx) (Sp.lim 1048576 b_y) (Sp.lim 1048576 cx) (Sp.lim 1048576 cy))) from (congrArg (Value.int .i64) (show (((Sp.lim 1048576 bx - Sp.lim 1048576 ax) * (Sp.lim 1048576 cy - Sp.lim 1048576 ay)) - ((Sp.lim 1048576 b_y - Sp.lim 1048576 ay) * (Sp.lim 1048576 cx - Sp.lim 1048576 ax))) = (Sp.crs (Sp.lim 1048576 ax) (Sp.lim 1048576 ay) (Sp.lim 1048576 bx) (Sp.lim 1048576 b_y) (Sp.lim 1048576 cx) (Sp.lim 1048576 cy)) from by rfl)))

theorem dot_ok (ax ay bx b_y cx cy : Int) :
    AC Try.prog 57 0 ([.agg #[.int .i64 ax, .int .i64 ay], .agg #[.int .i64 bx, .int .i64 b_y], .agg #[.int .i64 cx, .int .i64 cy]]) [] (.int .i64 (Sp.dot (Sp.lim 1048576 ax) (Sp.lim 1048576 ay) (Sp.lim 1048576 bx) (Sp.lim 1048576 b_y) (Sp.lim 1048576 cx) (Sp.lim 1048576 cy))) [] := by
  have qax := Sp.lim_bd (m := 1048576) (by decide) ax; have qay := Sp.lim_bd (m := 1048576) (by decide) ay; have qbx := Sp.lim_bd (m := 1048576) (by decide) bx; have qb_y := Sp.lim_bd (m := 1048576) (by decide) b_y; have qcx := Sp.lim_bd (m := 1048576) (by decide) cx; have qcy := Sp.lim_bd (m := 1048576) (by decide) cy; have p0 := Sp.mul_bd (a := Sp.lim 1048576 bx - Sp.lim 1048576 ax) (b := Sp.lim 1048576 cx - Sp.lim 1048576 ax) (A := 2097152) (B := 2097152) (by omega) (by omega) (by omega) (by omega); have p1 := Sp.mul_bd (a := Sp.lim 1048576 b_y - Sp.lim 1048576 ay) (b := Sp.lim 1048576 cy - Sp.lim 1048576 ay) (A := 2097152) (B := 2097152) (by omega) (by omega) (by omega) (by omega)
  refine ac_in Try.func57 (fun w0 W pin => ?_)
  refine aw_p 3 (
    .a 4 1 <| .nil _ _) ?_
  refine aw_d 7 (
    .a 2 4 <| .p (does_c (way_ok ax ay bx b_y)) <| .a 2 4 <| .p (does_c (way_ok ax ay cx cy)) <| .a 4 4 <| .nil _ _) ?_
  refine aw_p 15 (
    .a 4 6 <| .p (does_i ((Sp.lim 1048576 bx - Sp.lim 1048576 ax) * (Sp.lim 1048576 cx - Sp.lim 1048576 ax)) (wrap_i64 (by omega) (by omega)) .i64) <| .a 4 6 <| .p (does_i ((Sp.lim 1048576 b_y - Sp.lim 1048576 ay) * (Sp.lim 1048576 cy - Sp.lim 1048576 ay)) (wrap_i64 (by omega) (by omega)) .i64) <|
    .p (does_i (((Sp.lim 1048576 bx - Sp.lim 1048576 ax) * (Sp.lim 1048576 cx - Sp.lim 1048576 ax)) + ((Sp.lim 1048576 b_y - Sp.lim 1048576 ay) * (Sp.lim 1048576 cy - Sp.lim 1048576 ay))) (wrap_i64 (by omega) (by omega)) .i64) <| .a 1 6 <| .nil _ _) ?_
  refine aw_w [(6, .int .i64 (((Sp.lim 1048576 bx - Sp.lim 1048576 ax) * (Sp.lim 1048576 cx - Sp.lim 1048576 ax)) + ((Sp.lim 1048576 b_y - Sp.lim 1048576 ay) * (Sp.lim 1048576 cy - Sp.lim 1048576 ay))))] [] ?_
  refine aw_rt ?_
  exact en_ret [.int .i64 (((Sp.lim 1048576 bx - Sp.lim 1048576 ax) * (Sp.lim 1048576 cx - Sp.lim 1048576 ax)) + ((Sp.lim 1048576 b_y - Sp.lim 1048576 ay) * (Sp.lim 1048576 cy - Sp.lim 1048576 ay)))] (show (.int .i64 (((Sp.lim 1048576 bx - Sp.lim 1048576 ax) * (Sp.lim 1048576 cx - Sp.lim 1048576 ax)) + ((Sp.lim 1048576 b_y - Sp.lim 1048576 ay) * (Sp.lim 1048576 cy - Sp.lim 1048576 ay))) : Value) = (.int .i64 (Sp.dot (Sp.lim 1048576 ax) (Sp.lim 1048576 ay) (Sp.lim 1048576 bx) (Sp.lim 1048576 b_y) (Sp.lim 1048576 cx) (Sp.lim 1048576 cy))) from (congrArg (Value.int .i64) (show (((Sp.lim 1048576 bx - Sp.lim 1048576 ax) * (Sp.lim 1048576 cx - Sp.lim 1048576 ax)) + ((Sp.lim 1048576 b_y - Sp.lim 1048576 ay) * (Sp.lim 1048576 cy - Sp.lim 1048576 ay))) = (Sp.dot (Sp.lim 1048576 ax) (Sp.lim 1048576 ay) (Sp.lim 1048576 bx) (Sp.lim 1048576 b_y) (Sp.lim 1048576 cx) (Sp.lim 1048576 cy)) from by rfl)))

theorem turn_ok (ax ay bx b_y cx cy : Int) :
    AC Try.prog 30 0 ([.agg #[.int .i64 ax, .int .i64 ay], .agg #[.int .i64 bx, .int .i64 b_y], .agg #[.int .i64 cx, .int .i64 cy]]) [] (.int .i64 (Sp.cmp (Sp.crs (Sp.lim 1048576 ax) (Sp.lim 1048576 ay) (Sp.lim 1048576 bx) (Sp.lim 1048576 b_y) (Sp.lim 1048576 cx) (Sp.lim 1048576 cy)) 0)) [] := by
  refine ac_in Try.func30 (fun w0 W pin => ?_)
  refine aw_p 3 (
    .a 4 1 <| .nil _ _) ?_
  refine aw_p 7 (
    .a 3 4 <| .p (does_c (cross_ok ax ay bx b_y cx cy)) <| .p (does_c (compare_ok (Sp.crs (Sp.lim 1048576 ax) (Sp.lim 1048576 ay) (Sp.lim 1048576 bx) (Sp.lim 1048576 b_y) (Sp.lim 1048576 cx) (Sp.lim 1048576 cy)) 0)) <| .a 1 4 <| .nil _ _) ?_
  refine aw_rt ?_
  exact en_ret [.int .i64 (Sp.cmp (Sp.crs (Sp.lim 1048576 ax) (Sp.lim 1048576 ay) (Sp.lim 1048576 bx) (Sp.lim 1048576 b_y) (Sp.lim 1048576 cx) (Sp.lim 1048576 cy)) 0)] (by kernel_rfl)

theorem sq_ok (ax ay bx b_y : Int) :
    AC Try.prog 84 0 ([.agg #[.int .i64 ax, .int .i64 ay], .agg #[.int .i64 bx, .int .i64 b_y]]) [] (.int .i64 (Sp.dot (Sp.lim 1048576 ax) (Sp.lim 1048576 ay) (Sp.lim 1048576 bx) (Sp.lim 1048576 b_y) (Sp.lim 1048576 bx) (Sp.lim 1048576 b_y))) [] := by
  refine ac_in Try.func84 (fun w0 W pin => ?_)
  refine aw_p 3 (
    .a 3 1 <| .nil _ _) ?_
  refine aw_p 7 (
    .a 3 3 <| .p (does_c (dot_ok ax ay bx b_y bx b_y)) <| .a 1 3 <| .nil _ _) ?_
  refine aw_rt ?_
  exact en_ret [.int .i64 (Sp.dot (Sp.lim 1048576 ax) (Sp.lim 1048576 ay) (Sp.lim 1048576 bx) (Sp.lim 1048576 b_y) (Sp.lim 1048576 bx) (Sp.lim 1048576 b_y))] (by kernel_rfl)

theorem on_ok (ax ay bx b_y px py : Int) :
    AC Try.prog 29 0 ([.agg #[.int .i64 ax, .int .i64 ay], .agg #[.int .i64 bx, .int .i64 b_y], .agg #[.int .i64 px, .int .i64 py]]) [] (.bool (Sp.onb (Sp.lim 1048576 ax) (Sp.lim 1048576 ay) (Sp.lim 1048576 bx) (Sp.lim 1048576 b_y) (Sp.lim 1048576 px) (Sp.lim 1048576 py))) [] := by
  refine ac_in Try.func29 (fun w0 W pin => ?_)
  refine aw_p 3 (
    .a 4 1 <| .nil _ _) ?_
  rcases Bool.eq_false_or_eq_true ((Sp.cmp (Sp.crs (Sp.lim 1048576 ax) (Sp.lim 1048576 ay) (Sp.lim 1048576 bx) (Sp.lim 1048576 b_y) (Sp.lim 1048576 px) (Sp.lim 1048576 py)) 0) == 0) with h1 | h1
  · have h1p : (((Sp.cmp (Sp.crs (Sp.lim 1048576 ax) (Sp.lim 1048576 ay) (Sp.lim 1048576 bx) (Sp.lim 1048576 b_y) (Sp.lim 1048576 px) (Sp.lim 1048576 py)) 0) = 0)) := by first | (simpa using h1) | (have h1q := h1; simp at h1q; omega) | (have h1q := bx1 h1; simp at h1q; omega)
    refine aw_p 7 (
      .a 3 4 <| .p (does_c (turn_ok ax ay bx b_y px py)) <| .p (does_b true (h1)) <| .a 4 4 <| .p (does_c (dot_ok px py ax ay bx b_y)) <| .a 3 4 <| .nil _ _) ?_
    refine aw_rt ?_
    exact en_ret [.bool (decide ((Sp.dot (Sp.lim 1048576 px) (Sp.lim 1048576 py) (Sp.lim 1048576 ax) (Sp.lim 1048576 ay) (Sp.lim 1048576 bx) (Sp.lim 1048576 b_y)) ≤ 0))] (show (.bool (decide ((Sp.dot (Sp.lim 1048576 px) (Sp.lim 1048576 py) (Sp.lim 1048576 ax) (Sp.lim 1048576 ay) (Sp.lim 1048576 bx) (Sp.lim 1048576 b_y)) ≤ 0)) : Value) = (.bool (Sp.onb (Sp.lim 1048576 ax) (Sp.lim 1048576 ay) (Sp.lim 1048576 bx) (Sp.lim 1048576 b_y) (Sp.lim 1048576 px) (Sp.lim 1048576 py))) from (congrArg Value.bool (show (decide ((Sp.dot (Sp.lim 1048576 px) (Sp.lim 1048576 py) (Sp.lim 1048576 ax) (Sp.lim 1048576 ay) (Sp.lim 1048576 bx) (Sp.lim 1048576 b_y)) ≤ 0)) = (Sp.onb (Sp.lim 1048576 ax) (Sp.lim 1048576 ay) (Sp.lim 1048576 bx) (Sp.lim 1048576 b_y) (Sp.lim 1048576 px) (Sp.lim 1048576 py)) from by (simp [Sp.onb, *]))))
  · have h1p : ¬ (((Sp.cmp (Sp.crs (Sp.lim 1048576 ax) (Sp.lim 1048576 ay) (Sp.lim 1048576 bx) (Sp.lim 1048576 b_y) (Sp.lim 1048576 px) (Sp.lim 1048576 py)) 0) = 0)) := by first | (simpa using h1) | (have h1q := h1; simp at h1q; omega) | (have h1q := bx2 h1; simp at h1q; omega)
    refine aw_p 7 (
      .a 3 4 <| .p (does_c (turn_ok ax ay bx b_y px py)) <| .p (does_b false (h1)) <| .a 8 4 <| .nil _ _) ?_
    refine aw_rt ?_
    exact en_ret [.bool false] (show (.bool false : Value) = (.bool (Sp.onb (Sp.lim 1048576 ax) (Sp.lim 1048576 ay) (Sp.lim 1048576 bx) (Sp.lim 1048576 b_y) (Sp.lim 1048576 px) (Sp.lim 1048576 py))) from (congrArg Value.bool (show false = (Sp.onb (Sp.lim 1048576 ax) (Sp.lim 1048576 ay) (Sp.lim 1048576 bx) (Sp.lim 1048576 b_y) (Sp.lim 1048576 px) (Sp.lim 1048576 py)) from by (simp [Sp.onb, *]))))

theorem pcmp_ok (ax ay bx b_y : Int) :
    AC Try.prog 32 0 ([.agg #[.int .i64 ax, .int .i64 ay], .agg #[.int .i64 bx, .int .i64 b_y]]) [] (.int .i64 (Sp.pcmp ax ay bx b_y)) [] := by
  refine ac_in Try.func32 (fun w0 W pin => ?_)
  refine aw_p 3 (
    .a 3 1 <| .nil _ _) ?_
  refine aw_sq 6 7 ?_
  refine aw_p 13 (
    .a 4 3 <| .p (does_c (compare_ok ax bx)) <| .a 1 3 <| .nil _ _) ?_
  refine aw_p 27 (
    .a 2 3 <| .nil _ _) ?_
  refine aw_cd 54 55 ((Sp.cmp ax bx) != 0) (fun h1 => ?_) (fun h1 => ?_)
  · have h1p : (¬ ((Sp.cmp ax bx) = 0)) := by first | (simpa using h1) | (have h1q := h1; simp at h1q; omega) | (have h1q := bx1 h1; simp at h1q; omega)
    refine aw_p 109 (
      .a 2 3 <| .nil _ _) ?_
    refine aw_rt ?_
    refine then_ret ?_
    exact en_ret [.int .i64 (Sp.cmp ax bx)] (show (.int .i64 (Sp.cmp ax bx) : Value) = (.int .i64 (Sp.pcmp ax ay bx b_y)) from (congrArg (Value.int .i64) (show (Sp.cmp ax bx) = (Sp.pcmp ax ay bx b_y) from by (simp [Sp.pcmp, *]))))
  · have h1p : ¬ (¬ ((Sp.cmp ax bx) = 0)) := by first | (simpa using h1) | (have h1q := h1; simp at h1q; omega) | (have h1q := bx2 h1; simp at h1q; omega)
    refine aw_sk ?_
    refine then_normal ?_
    refine aw_p 15 (
      .a 4 3 <| .p (does_c (compare_ok ay b_y)) <| .a 1 3 <| .nil _ _) ?_
    refine aw_rt ?_
    exact en_ret [.int .i64 (Sp.cmp ay b_y)] (show (.int .i64 (Sp.cmp ay b_y) : Value) = (.int .i64 (Sp.pcmp ax ay bx b_y)) from (congrArg (Value.int .i64) (show (Sp.cmp ay b_y) = (Sp.pcmp ax ay bx b_y) from by (simp [Sp.pcmp, *]))))

theorem terrkeep1_at_ok (x y : Int) :
    AC Try.prog 19 0 ([.int .i64 x, .int .i64 y]) [] (.agg #[.int .i64 x, .int .i64 y]) [] := by
  refine ac_in Try.func19 (fun w0 W pin => ?_)
  refine aw_p 3 (
    .a 1 1 <| .nil _ _) ?_
  refine aw_p 7 (
    .a 4 2 <| .nil _ _) ?_
  refine aw_rt ?_
  exact en_ret [.agg #[.int .i64 x, .int .i64 y]] (by kernel_rfl)

theorem next_own (xs : List Int) (p : Nat) (n : Int) (hp : p < xs.length) (h0 : 0 < n) (hz : n ≤ 9223372036854775807) :
    AC Try.prog 26 2 ([.pointer (some ⟨0, 0, none⟩), .int .i64 n]) [(0, ⟨[.slice (some ⟨1, p, none⟩) (xs.length - p) 0], 60, true, 1⟩), (1, ⟨(xs.map i64v), 3, true, 1⟩)] (.int .i64 (xs.getD p 0 % n)) [(0, ⟨[.slice (some ⟨1, (p + 1), none⟩) (xs.length - p - 1) 0], 60, true, 1⟩), (1, ⟨(xs.map i64v), 3, true, 1⟩)] := by
  refine ac_in Try.func26 (fun w0 W pin => ?_)
  refine aw_p 3 (
    .a 1 2 <| .nil _ _) ?_
  refine aw_sq 6 7 ?_
  refine aw_p 13 (
    .a 5 2 <| .p (does_b false ((show ((((xs.length - p) : Nat) : Int) == 0) = false from by rw [beq_eq_false_iff_ne]; omega))) <| .a 2 2 <| .p (does_b false ((show (decide (n < 1)) = false from decide_eq_false (by omega)))) <| .a 1 2 <| .nil _ _) ?_
  refine aw_fl 27 ?_
  refine aw_sk ?_
  refine then_normal ?_
  refine aw_p 15 (
    .a 4 2 <| .p (does_indexSlice (t := 22) (x := .tmp 19) (y := .const (.int .i64 0)) (k := 1) (off := p) (n := (xs.length - p)) (c := 0) (z := 1) (kd := .i64) (j := 0) (by kernel_rfl) (by kernel_rfl) (by kernel_rfl) (by kernel_rfl) (by kernel_rfl) (by omega) (by omega)) <|
    .p (does_load (t := 3) (x := .tmp 20) (k := 1) (off := p + 0 * 1) (b := ⟨(xs.map i64v), 3, true, 1⟩) (v := .int .i64 (xs.getD p 0)) (by kernel_rfl) (by kernel_rfl) (by kernel_rfl) (ldV_map (f := i64v) (j := p) 0 (by kernel_rfl) (by kernel_rfl) hp)) <| .a 1 2 <| .nil _ _) ?_
  refine aw_p 31 (
    .a 5 2 <|
    .p (does_val (v' := .slice (some ⟨1, (p + 1), none⟩) ((xs.length - p) - 1) 0) (does_slice (t := 22) (x := .tmp 26) (lo := some (.const (.int .i64 1))) (hi := none) (k := 1) (off := p) (n := (xs.length - p)) (c := 0) (z := 1) (l := 1) (h := (((xs.length - p) : Nat) : Int)) (m := ((xs.length - p) - 1)) (b := ⟨(xs.map i64v), 3, true, 1⟩) (by kernel_rfl) (by kernel_rfl) (by kernel_rfl) (by kernel_rfl) (by kernel_rfl) (by kernel_rfl) (by kernel_rfl) (by kernel_rfl) (by omega) (by omega) (by omega) (by omega)) (by kernel_rfl)) <|
    .a 3 2 <| .nil _ _) ?_
  refine aw_w [(1, .int .i64 n), (4, .int .i64 0), (5, .int .i64 (xs.getD p 0))] [(0, ⟨[.slice (some ⟨1, (p + 1), none⟩) ((xs.length - p) - 1) 0], 60, true, 1⟩), (1, ⟨(xs.map i64v), 3, true, 1⟩)] ?_ (hc := (by simp [closedB, valsB, valB, flats_map, List.all_eq_true, i64v, flat1]; try decide))
  refine aw_p 63 (
    .a 2 2 <| .p (does_c (below_ok (xs.getD p 0) n (by omega) (by omega))) <| .a 1 2 <| .nil _ _) ?_
  refine aw_rt ?_
  exact en_ret [.int .i64 ((xs.getD p 0) % n)] (show (.int .i64 ((xs.getD p 0) % n) : Value) = (.int .i64 (xs.getD p 0 % n)) from (congrArg (Value.int .i64) (show ((xs.getD p 0) % n) = (xs.getD p 0 % n) from by rfl)))

theorem next0_own (xs : List Int) (p : Nat) (n : Int) (hp : ¬ p < xs.length) :
    AC Try.prog 26 2 ([.pointer (some ⟨0, 0, none⟩), .int .i64 n]) [(0, ⟨[.slice (some ⟨1, p, none⟩) (xs.length - p) 0], 60, true, 1⟩), (1, ⟨(xs.map i64v), 3, true, 1⟩)] (.int .i64 0) [(0, ⟨[.slice (some ⟨1, p, none⟩) (xs.length - p) 0], 60, true, 1⟩), (1, ⟨(xs.map i64v), 3, true, 1⟩)] := by
  refine ac_in Try.func26 (fun w0 W pin => ?_)
  refine aw_p 3 (
    .a 1 2 <| .nil _ _) ?_
  refine aw_sq 6 7 ?_
  refine aw_p 13 (
    .a 5 2 <| .p (does_b true ((show ((((xs.length - p) : Nat) : Int) == 0) = true from by rw [beq_iff_eq]; omega))) <| .a 4 2 <| .nil _ _) ?_
  refine aw_tr 26 ?_
  refine aw_p 53 (
    .a 1 2 <| .nil _ _) ?_
  refine aw_rt ?_
  refine then_ret ?_
  exact en_ret [.int .i64 0] (by kernel_rfl)

theorem next_ro (xs : List Int) (p : Nat) (n : Int) (hp : p < xs.length) (h0 : 0 < n) (hz : n ≤ 9223372036854775807) :
    AC Try.prog 26 2 ([.pointer (some ⟨0, 0, none⟩), .int .i64 n]) [(0, ⟨[.slice (some ⟨1, p, none⟩) (xs.length - p) 0], 60, true, 1⟩), (1, ⟨(xs.map i64v), 3, false, 1⟩)] (.int .i64 (xs.getD p 0 % n)) [(0, ⟨[.slice (some ⟨1, (p + 1), none⟩) (xs.length - p - 1) 0], 60, true, 1⟩)] := by
  refine ac_in Try.func26 (fun w0 W pin => ?_)
  refine aw_p 3 (
    .a 1 2 <| .nil _ _) ?_
  refine aw_sq 6 7 ?_
  refine aw_p 13 (
    .a 5 2 <| .p (does_b false ((show ((((xs.length - p) : Nat) : Int) == 0) = false from by rw [beq_eq_false_iff_ne]; omega))) <| .a 2 2 <| .p (does_b false ((show (decide (n < 1)) = false from decide_eq_false (by omega)))) <| .a 1 2 <| .nil _ _) ?_
  refine aw_fl 27 ?_
  refine aw_sk ?_
  refine then_normal ?_
  refine aw_p 15 (
    .a 4 2 <| .p (does_indexSlice (t := 22) (x := .tmp 19) (y := .const (.int .i64 0)) (k := 1) (off := p) (n := (xs.length - p)) (c := 0) (z := 1) (kd := .i64) (j := 0) (by kernel_rfl) (by kernel_rfl) (by kernel_rfl) (by kernel_rfl) (by kernel_rfl) (by omega) (by omega)) <|
    .p (does_load (t := 3) (x := .tmp 20) (k := 1) (off := p + 0 * 1) (b := ⟨(xs.map i64v), 3, false, 1⟩) (v := .int .i64 (xs.getD p 0)) (by kernel_rfl) (by kernel_rfl) (by kernel_rfl) (ldV_map (f := i64v) (j := p) 0 (by kernel_rfl) (by kernel_rfl) hp)) <| .a 1 2 <| .nil _ _) ?_
  refine aw_p 31 (
    .a 5 2 <|
    .p (does_val (v' := .slice (some ⟨1, (p + 1), none⟩) ((xs.length - p) - 1) 0) (does_slice (t := 22) (x := .tmp 26) (lo := some (.const (.int .i64 1))) (hi := none) (k := 1) (off := p) (n := (xs.length - p)) (c := 0) (z := 1) (l := 1) (h := (((xs.length - p) : Nat) : Int)) (m := ((xs.length - p) - 1)) (b := ⟨(xs.map i64v), 3, false, 1⟩) (by kernel_rfl) (by kernel_rfl) (by kernel_rfl) (by kernel_rfl) (by kernel_rfl) (by kernel_rfl) (by kernel_rfl) (by kernel_rfl) (by omega) (by omega) (by omega) (by omega)) (by kernel_rfl)) <|
    .a 3 2 <| .nil _ _) ?_
  refine aw_w [(1, .int .i64 n), (4, .int .i64 0), (5, .int .i64 (xs.getD p 0))] [(0, ⟨[.slice (some ⟨1, (p + 1), none⟩) ((xs.length - p) - 1) 0], 60, true, 1⟩), (1, ⟨(xs.map i64v), 3, false, 1⟩)] ?_ (hc := (by simp [closedB, valsB, valB, flats_map, List.all_eq_true, i64v, flat1]; try decide))
  refine aw_p 63 (
    .a 2 2 <| .p (does_c (below_ok (xs.getD p 0) n (by omega) (by omega))) <| .a 1 2 <| .nil _ _) ?_
  refine aw_rt ?_
  exact en_ret [.int .i64 ((xs.getD p 0) % n)] (show (.int .i64 ((xs.getD p 0) % n) : Value) = (.int .i64 (xs.getD p 0 % n)) from (congrArg (Value.int .i64) (show ((xs.getD p 0) % n) = (xs.getD p 0 % n) from by rfl)))

theorem next0_ro (xs : List Int) (p : Nat) (n : Int) (hp : ¬ p < xs.length) :
    AC Try.prog 26 2 ([.pointer (some ⟨0, 0, none⟩), .int .i64 n]) [(0, ⟨[.slice (some ⟨1, p, none⟩) (xs.length - p) 0], 60, true, 1⟩), (1, ⟨(xs.map i64v), 3, false, 1⟩)] (.int .i64 0) [(0, ⟨[.slice (some ⟨1, p, none⟩) (xs.length - p) 0], 60, true, 1⟩)] := by
  refine ac_in Try.func26 (fun w0 W pin => ?_)
  refine aw_p 3 (
    .a 1 2 <| .nil _ _) ?_
  refine aw_sq 6 7 ?_
  refine aw_p 13 (
    .a 5 2 <| .p (does_b true ((show ((((xs.length - p) : Nat) : Int) == 0) = true from by rw [beq_iff_eq]; omega))) <| .a 4 2 <| .nil _ _) ?_
  refine aw_tr 26 ?_
  refine aw_p 53 (
    .a 1 2 <| .nil _ _) ?_
  refine aw_rt ?_
  refine then_ret ?_
  exact en_ret [.int .i64 0] (by kernel_rfl)

theorem spoint_ok (x y : Int) :
    AC Try.prog 55 2 ([.pointer (some ⟨0, 0, none⟩)]) [(0, ⟨[.slice (some ⟨1, 0, none⟩) 2 0], 60, true, 1⟩), (1, ⟨[.int .i64 x, .int .i64 y], 3, true, 1⟩)] (.agg #[.int .i64 (x % 81 - 40), .int .i64 (y % 81 - 40)]) [(0, ⟨[.slice (some ⟨1, 2, none⟩) 0 0], 60, true, 1⟩), (1, ⟨[.int .i64 x, .int .i64 y], 3, true, 1⟩)] := by
  have q1 := Sp.emod_bd x (n := 81) (by decide); have q2 := Sp.emod_bd y (n := 81) (by decide)
  refine ac_in Try.func55 (fun w0 W pin => ?_)
  refine aw_p 3 (
    .a 1 2 <| .nil _ _) ?_
  refine aw_p 7 (
    .a 1 3 <|
    .p (does_callB (x := .func 26) (ars := #[.tmp 3, .const (.int .i64 81)]) (ats := #[58, 3]) (g := 26) (vs := [.pointer (some ⟨0, 0, none⟩), .int .i64 81]) (m := 2) (r := 0) (firsts := #[]) (caps := #[]) (args0 := [.pointer (some ⟨0, 0, none⟩), .int .i64 81]) (pre0 := [(0, ⟨[.slice (some ⟨1, 0, none⟩) (([x, y]).length - 0) 0], 60, true, 1⟩), (1, ⟨(([x, y]).map i64v), 3, true, 1⟩)]) (post0 := [(0, ⟨[.slice (some ⟨1, (0 + 1), none⟩) (([x, y]).length - 0 - 1) 0], 60, true, 1⟩), (1, ⟨(([x, y]).map i64v), 3, true, 1⟩)]) (pre := [(0, ⟨[.slice (some ⟨1, 0, none⟩) 2 0], 60, true, 1⟩), (1, ⟨[.int .i64 x, .int .i64 y], 3, true, 1⟩)]) (post := [(0, ⟨[.slice (some ⟨1, 1, none⟩) 1 0], 60, true, 1⟩), (1, ⟨[.int .i64 x, .int .i64 y], 3, true, 1⟩)]) (v0 := .int .i64 (([x, y]).getD 0 0 % 81)) (v := .int .i64 (x % 81)) [0, 1] (by kernel_rfl) (by kernel_rfl) (by kernel_rfl) (by kernel_rfl) (next_own ([x, y]) 0 81 (by simp) (by decide) (by decide)) (.cons (.ptr _ _ (by decide)) (.cons (.flatB (by kernel_rfl)) .nil)) ⟨rfl, ⟨rfl, rfl, rfl, (.cons (.slice _ _ _ _ _ (by decide)) .nil)⟩, rfl, ⟨rfl, rfl, rfl, (.flats (flats_map (fun _ => rfl) _))⟩, trivial⟩ (by kernel_rfl) (by kernel_rfl) (by kernel_rfl) ⟨rfl, ⟨rfl, rfl, rfl, (.cons (.slice _ _ _ _ _ (by decide)) .nil)⟩, rfl, ⟨rfl, rfl, rfl, (.flats (flats_map (fun _ => rfl) _))⟩, trivial⟩ (.flatB (by kernel_rfl))) <|
    .p (does_i ((x % 81) - 40) (wrap_i64 (by omega) (by omega)) .i64) <| .a 1 3 <|
    .p (does_callB (x := .func 26) (ars := #[.tmp 6, .const (.int .i64 81)]) (ats := #[58, 3]) (g := 26) (vs := [.pointer (some ⟨0, 0, none⟩), .int .i64 81]) (m := 2) (r := 0) (firsts := #[]) (caps := #[]) (args0 := [.pointer (some ⟨0, 0, none⟩), .int .i64 81]) (pre0 := [(0, ⟨[.slice (some ⟨1, 1, none⟩) (([x, y]).length - 1) 0], 60, true, 1⟩), (1, ⟨(([x, y]).map i64v), 3, true, 1⟩)]) (post0 := [(0, ⟨[.slice (some ⟨1, (1 + 1), none⟩) (([x, y]).length - 1 - 1) 0], 60, true, 1⟩), (1, ⟨(([x, y]).map i64v), 3, true, 1⟩)]) (pre := [(0, ⟨[.slice (some ⟨1, 1, none⟩) 1 0], 60, true, 1⟩), (1, ⟨[.int .i64 x, .int .i64 y], 3, true, 1⟩)]) (post := [(0, ⟨[.slice (some ⟨1, 2, none⟩) 0 0], 60, true, 1⟩), (1, ⟨[.int .i64 x, .int .i64 y], 3, true, 1⟩)]) (v0 := .int .i64 (([x, y]).getD 1 0 % 81)) (v := .int .i64 (y % 81)) [0, 1] (by kernel_rfl) (by kernel_rfl) (by kernel_rfl) (by kernel_rfl) (next_own ([x, y]) 1 81 (by simp) (by decide) (by decide)) (.cons (.ptr _ _ (by decide)) (.cons (.flatB (by kernel_rfl)) .nil)) ⟨rfl, ⟨rfl, rfl, rfl, (.cons (.slice _ _ _ _ _ (by decide)) .nil)⟩, rfl, ⟨rfl, rfl, rfl, (.flats (flats_map (fun _ => rfl) _))⟩, trivial⟩ (by kernel_rfl) (by kernel_rfl) (by kernel_rfl) ⟨rfl, ⟨rfl, rfl, rfl, (.cons (.slice _ _ _ _ _ (by decide)) .nil)⟩, rfl, ⟨rfl, rfl, rfl, (.flats (flats_map (fun _ => rfl) _))⟩, trivial⟩ (.flatB (by kernel_rfl))) <|
    .p (does_i ((y % 81) - 40) (wrap_i64 (by omega) (by omega)) .i64) <| .a 2 3 <| .nil _ _) ?_
  refine aw_rt ?_
  exact en_ret [.agg #[.int .i64 ((x % 81) - 40), .int .i64 ((y % 81) - 40)]] (show (.agg #[.int .i64 ((x % 81) - 40), .int .i64 ((y % 81) - 40)] : Value) = (.agg #[.int .i64 (x % 81 - 40), .int .i64 (y % 81 - 40)]) from (congrArg (fun z : List Value => Value.agg z.toArray) (lcons (congrArg (Value.int .i64) (show ((x % 81) - 40) = (x % 81 - 40) from by rfl)) (lcons (congrArg (Value.int .i64) (show ((y % 81) - 40) = (y % 81 - 40) from by rfl)) rfl))))

theorem mpoint_ok (x y : Int) :
    AC Try.prog 27 1 ([.slice (some ⟨0, 0, none⟩) 2 0]) [(0, ⟨[.int .i64 x, .int .i64 y], 3, true, 1⟩)] (.agg #[.int .i64 (x % 81 - 40), .int .i64 (y % 81 - 40)]) [(0, ⟨[.int .i64 x, .int .i64 y], 3, true, 1⟩)] := by
  refine ac_in Try.func27 (fun w0 W pin => ?_)
  refine aw_p 3 (
    .a 1 1 <| .nil _ _) ?_
  refine aw_p 7 (
    .a 3 2 <| .p (does_k [2, 0] (spoint_ok x y)) <| .a 1 3 <| .nil _ _) ?_
  refine aw_rt ?_
  exact en_ret [.agg #[.int .i64 (x % 81 - 40), .int .i64 (y % 81 - 40)]] (by kernel_rfl)


theorem cross_in (ax ay bx b_y cx cy : Int) (axl : -1048576 ≤ ax) (axu : ax ≤ 1048576) (ayl : -1048576 ≤ ay) (ayu : ay ≤ 1048576) (bxl : -1048576 ≤ bx) (bxu : bx ≤ 1048576) (b_yl : -1048576 ≤ b_y) (b_yu : b_y ≤ 1048576) (cxl : -1048576 ≤ cx) (cxu : cx ≤ 1048576) (cyl : -1048576 ≤ cy) (cyu : cy ≤ 1048576) : AC Try.prog 40 0 [.agg #[.int .i64 ax, .int .i64 ay], .agg #[.int .i64 bx, .int .i64 b_y], .agg #[.int .i64 cx, .int .i64 cy]] [] (.int .i64 (Sp.crs ax ay bx b_y cx cy)) [] := by
  have h := cross_ok ax ay bx b_y cx cy
  simp only [Sp.lim_id axl axu, Sp.lim_id ayl ayu, Sp.lim_id bxl bxu, Sp.lim_id b_yl b_yu, Sp.lim_id cxl cxu, Sp.lim_id cyl cyu] at h
  exact h

theorem dot_in (ax ay bx b_y cx cy : Int) (axl : -1048576 ≤ ax) (axu : ax ≤ 1048576) (ayl : -1048576 ≤ ay) (ayu : ay ≤ 1048576) (bxl : -1048576 ≤ bx) (bxu : bx ≤ 1048576) (b_yl : -1048576 ≤ b_y) (b_yu : b_y ≤ 1048576) (cxl : -1048576 ≤ cx) (cxu : cx ≤ 1048576) (cyl : -1048576 ≤ cy) (cyu : cy ≤ 1048576) : AC Try.prog 57 0 [.agg #[.int .i64 ax, .int .i64 ay], .agg #[.int .i64 bx, .int .i64 b_y], .agg #[.int .i64 cx, .int .i64 cy]] [] (.int .i64 (Sp.dot ax ay bx b_y cx cy)) [] := by
  have h := dot_ok ax ay bx b_y cx cy
  simp only [Sp.lim_id axl axu, Sp.lim_id ayl ayu, Sp.lim_id bxl bxu, Sp.lim_id b_yl b_yu, Sp.lim_id cxl cxu, Sp.lim_id cyl cyu] at h
  exact h

theorem turn_in (ax ay bx b_y cx cy : Int) (axl : -1048576 ≤ ax) (axu : ax ≤ 1048576) (ayl : -1048576 ≤ ay) (ayu : ay ≤ 1048576) (bxl : -1048576 ≤ bx) (bxu : bx ≤ 1048576) (b_yl : -1048576 ≤ b_y) (b_yu : b_y ≤ 1048576) (cxl : -1048576 ≤ cx) (cxu : cx ≤ 1048576) (cyl : -1048576 ≤ cy) (cyu : cy ≤ 1048576) : AC Try.prog 30 0 [.agg #[.int .i64 ax, .int .i64 ay], .agg #[.int .i64 bx, .int .i64 b_y], .agg #[.int .i64 cx, .int .i64 cy]] [] (.int .i64 (Sp.cmp (Sp.crs ax ay bx b_y cx cy) 0)) [] := by
  have h := turn_ok ax ay bx b_y cx cy
  simp only [Sp.lim_id axl axu, Sp.lim_id ayl ayu, Sp.lim_id bxl bxu, Sp.lim_id b_yl b_yu, Sp.lim_id cxl cxu, Sp.lim_id cyl cyu] at h
  exact h

theorem sq_in (ax ay bx b_y : Int) (axl : -1048576 ≤ ax) (axu : ax ≤ 1048576) (ayl : -1048576 ≤ ay) (ayu : ay ≤ 1048576) (bxl : -1048576 ≤ bx) (bxu : bx ≤ 1048576) (b_yl : -1048576 ≤ b_y) (b_yu : b_y ≤ 1048576) : AC Try.prog 84 0 [.agg #[.int .i64 ax, .int .i64 ay], .agg #[.int .i64 bx, .int .i64 b_y]] [] (.int .i64 (Sp.dot ax ay bx b_y bx b_y)) [] := by
  have h := sq_ok ax ay bx b_y
  simp only [Sp.lim_id axl axu, Sp.lim_id ayl ayu, Sp.lim_id bxl bxu, Sp.lim_id b_yl b_yu] at h
  exact h

theorem on_in (ax ay bx b_y cx cy : Int) (axl : -1048576 ≤ ax) (axu : ax ≤ 1048576) (ayl : -1048576 ≤ ay) (ayu : ay ≤ 1048576) (bxl : -1048576 ≤ bx) (bxu : bx ≤ 1048576) (b_yl : -1048576 ≤ b_y) (b_yu : b_y ≤ 1048576) (cxl : -1048576 ≤ cx) (cxu : cx ≤ 1048576) (cyl : -1048576 ≤ cy) (cyu : cy ≤ 1048576) : AC Try.prog 29 0 [.agg #[.int .i64 ax, .int .i64 ay], .agg #[.int .i64 bx, .int .i64 b_y], .agg #[.int .i64 cx, .int .i64 cy]] [] (.bool (Sp.onb ax ay bx b_y cx cy)) [] := by
  have h := on_ok ax ay bx b_y cx cy
  simp only [Sp.lim_id axl axu, Sp.lim_id ayl ayu, Sp.lim_id bxl bxu, Sp.lim_id b_yl b_yu, Sp.lim_id cxl cxu, Sp.lim_id cyl cyu] at h
  exact h

theorem pok_in (ax ay : Int) (h1 : -1048576 ≤ ax) (h2 : ax ≤ 1048576) (h3 : -1048576 ≤ ay) (h4 : ay ≤ 1048576) : AC Try.prog 38 0 [.agg #[.int .i64 ax, .int .i64 ay]] [] (.bool true) [] := by
  have h := pok_ok ax ay
  rw [Sp.lim_id h1 h2, Sp.lim_id h3 h4] at h
  simpa using h

theorem clamp_in (x y : Int) (h1 : -1048576 ≤ x) (h2 : x ≤ 1048576) (h3 : -1048576 ≤ y) (h4 : y ≤ 1048576) : AC Try.prog 28 0 [.agg #[.int .i64 x, .int .i64 y]] [] (.agg #[.int .i64 x, .int .i64 y]) [] := by
  have h := clamp_ok x y
  rw [Sp.lim_id h1 h2, Sp.lim_id h3 h4] at h
  exact h

end Go.Proofs.Ytomnkdlfmjdckaa.Am
