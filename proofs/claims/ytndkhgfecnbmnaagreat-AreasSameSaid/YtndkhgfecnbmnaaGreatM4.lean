import Derived.Test.YtndkhgfecnbmnaaGreatProg
import Derived.Test.YtndkhgfecnbmnaaGreatM2
import Derived.Test.YtndkhgfecnbmnaaGreatM3
namespace Go.Proofs.YtndkhgfecnbmnaaGreat.Am
open Go Go.Proofs
set_option maxRecDepth 100000
set_option maxHeartbeats 4000000
set_option linter.unusedVariables false
set_option linter.unusedSimpArgs false
theorem limit_ok (n m : Int) (h0 : 0 ≤ m) (h1 : m ≤ 4611686018427387904) :
    AC Tryz.prog 66 0 ([.int .i64 n, .int .i64 m]) [] (.int .i64 (Sp.lim m n)) [] := by
  refine ac_in Tryz.func66 (fun w0 W pin => ?_)
  refine aw_p 3 (
    .a 1 1 <| .nil _ _) ?_
  refine aw_p 7 (
    .a 1 1 <| .p (does_i (0 - m) (wrap_i64 (by omega) (by omega)) .i64) <| .a 5 1 <| .nil _ _) ?_
  refine aw_rt ?_
  exact en_ret [.int .i64 (if (if m < n then m else n) > (0 - m) then (if m < n then m else n) else (0 - m))] (show (.int .i64 (if (if m < n then m else n) > (0 - m) then (if m < n then m else n) else (0 - m)) : Value) = (.int .i64 (Sp.lim m n)) from (congrArg (Value.int .i64) (show (if (if m < n then m else n) > (0 - m) then (if m < n then m else n) else (0 - m)) = (Sp.lim m n) from by (first | rfl | (simp only [Sp.lim, Sp.cmp, Sp.sgn]; (repeat' split) <;> omega)))))
theorem clamp_ok (x y : Int) :
    AC Tryz.prog 37 0 ([.agg #[.int .i64 x, .int .i64 y]]) [] (.agg #[.int .i64 (Sp.lim 1048576 x), .int .i64 (Sp.lim 1048576 y)]) [] := by
  refine ac_in Tryz.func37 (fun w0 W pin => ?_)
  refine aw_p 3 (
    .a 2 1 <| .nil _ _) ?_
  refine aw_d 7 (
    .a 2 3 <| .p (does_c (limit_ok x 1048576 (by decide) (by decide))) <| .a 2 3 <| .p (does_c (limit_ok y 1048576 (by decide) (by decide))) <| .a 2 3 <| .nil _ _) ?_
  refine aw_rt ?_
  exact en_ret [.agg #[.int .i64 (Sp.lim 1048576 x), .int .i64 (Sp.lim 1048576 y)]] (by kernel_rfl)
theorem pok_ok (x y : Int) :
    AC Tryz.prog 61 0 ([.agg #[.int .i64 x, .int .i64 y]]) [] (.bool ((x == (Sp.lim 1048576 x)) && ((y == (Sp.lim 1048576 y)) && true))) [] := by
  refine ac_in Tryz.func61 (fun w0 W pin => ?_)
  refine aw_p 3 (
    .a 2 1 <| .nil _ _) ?_
  refine aw_d 7 (
    .a 2 2 <| .p (does_c (clamp_ok x y)) <| .p (does_e ((x == (Sp.lim 1048576 x)) && ((y == (Sp.lim 1048576 y)) && true)) (rfl)) <| .a 1 2 <| .nil _ _) ?_
  refine aw_rt ?_
  exact en_ret [.bool ((x == (Sp.lim 1048576 x)) && ((y == (Sp.lim 1048576 y)) && true))] (by kernel_rfl)
theorem isnan_ok (x : Int) :
    AC Tryz.prog 88 0 ([.int .i64 x]) [] (.bool false) [] := by
  refine ac_in Tryz.func88 (fun w0 W pin => ?_)
  refine aw_p 3 (
    .a 1 1 <| .nil _ _) ?_
  refine aw_p 7 (
    .a 2 1 <| .p (does_b false ((show (x != x) = false from by simp))) <| .a 1 1 <| .nil _ _) ?_
  refine aw_rt ?_
  exact en_ret [.bool false] (by kernel_rfl)
theorem compare_ok (x y : Int) :
    AC Tryz.prog 58 0 ([.int .i64 x, .int .i64 y]) [] (.int .i64 (Sp.cmp x y)) [] := by
  refine ac_in Tryz.func58 (fun w0 W pin => ?_)
  refine aw_p 3 (
    .a 1 1 <| .nil _ _) ?_
  refine aw_p 7 (
    .a 1 1 <| .p (does_c (isnan_ok x)) <| .a 1 1 <| .nil _ _) ?_
  refine aw_p 15 (
    .a 1 1 <| .p (does_c (isnan_ok y)) <| .a 1 1 <| .nil _ _) ?_
  refine aw_sq 30 31 ?_
  refine aw_p 61 (
    .a 1 1 <| .nil _ _) ?_
  refine aw_fl 123 ?_
  refine aw_sk ?_
  refine then_normal ?_
  refine aw_sq 62 63 ?_
  refine aw_p 125 (
    .a 1 1 <| .nil _ _) ?_
  refine aw_fl 251 ?_
  refine aw_sk ?_
  refine then_normal ?_
  refine aw_sq 126 127 ?_
  refine aw_p 253 (
    .a 3 1 <| .nil _ _) ?_
  refine aw_cd 506 507 (decide (x < y)) (fun h1 => ?_) (fun h1 => ?_)
  · have h1p : ((x < y)) := by first | (simpa using h1) | (have h1q := h1; simp at h1q; omega) | (have h1q := bx1 h1; simp at h1q; omega)
    refine aw_p 1013 (
      .a 1 1 <| .nil _ _) ?_
    refine aw_rt ?_
    refine then_ret ?_
    exact en_ret [.int .i64 (-1)] (show (.int .i64 (-1) : Value) = (.int .i64 (Sp.cmp x y)) from (congrArg (Value.int .i64) (show (-1) = (Sp.cmp x y) from by (simp only [decide_eq_true_eq, decide_eq_false_iff_not] at *; simp only [Sp.lim, Sp.cmp, Sp.sgn]; (repeat' split) <;> omega))))
  · have h1p : ¬ ((x < y)) := by first | (simpa using h1) | (have h1q := h1; simp at h1q; omega) | (have h1q := bx2 h1; simp at h1q; omega)
    refine aw_sk ?_
    refine then_normal ?_
    refine aw_sq 254 255 ?_
    refine aw_p 509 (
      .a 3 1 <| .nil _ _) ?_
    refine aw_cd 1018 1019 (decide (x > y)) (fun h2 => ?_) (fun h2 => ?_)
    · have h2p : ((x > y)) := by first | (simpa using h2) | (have h2q := h2; simp at h2q; omega) | (have h2q := bx1 h2; simp at h2q; omega)
      refine aw_p 2037 (
        .a 1 1 <| .nil _ _) ?_
      refine aw_rt ?_
      refine then_ret ?_
      exact en_ret [.int .i64 1] (show (.int .i64 1 : Value) = (.int .i64 (Sp.cmp x y)) from (congrArg (Value.int .i64) (show 1 = (Sp.cmp x y) from by (simp only [decide_eq_true_eq, decide_eq_false_iff_not] at *; simp only [Sp.lim, Sp.cmp, Sp.sgn]; (repeat' split) <;> omega))))
    · have h2p : ¬ ((x > y)) := by first | (simpa using h2) | (have h2q := h2; simp at h2q; omega) | (have h2q := bx2 h2; simp at h2q; omega)
      refine aw_sk ?_
      refine then_normal ?_
      refine aw_p 511 (
        .a 1 1 <| .nil _ _) ?_
      refine aw_rt ?_
      exact en_ret [.int .i64 0] (show (.int .i64 0 : Value) = (.int .i64 (Sp.cmp x y)) from (congrArg (Value.int .i64) (show 0 = (Sp.cmp x y) from by (simp only [decide_eq_true_eq, decide_eq_false_iff_not] at *; simp only [Sp.lim, Sp.cmp, Sp.sgn]; (repeat' split) <;> omega))))
theorem below_ok (x n : Int) (h0 : 0 < n) (hz : n ≤ 9223372036854775807) :
    AC Tryz.prog 50 0 ([.int .i64 x, .int .i64 n]) [] (.int .i64 (x % n)) [] := by
  have hlo := Sp.tmod_lo (x := x) h0
  refine ac_in Tryz.func50 (fun w0 W pin => ?_)
  refine aw_p 3 (
    .a 1 1 <| .nil _ _) ?_
  refine aw_p 7 (
    .a 2 1 <| .p (does_rem (t := 3) (t2 := 3) (x := .tmp 5) (y := .tmp 6) (k := .i64) (a := x) (b := n) (by kernel_rfl) (by kernel_rfl) (by kernel_rfl) (by omega)) <| .a 1 1 <| .nil _ _) ?_
  refine aw_sq 14 15 ?_
  refine aw_p 29 (
    .a 2 1 <| .nil _ _) ?_
  refine aw_cd 58 59 (decide ((Int.tmod x n) < 0)) (fun h1 => ?_) (fun h1 => ?_)
  · have h1p : (((Int.tmod x n) < 0)) := by first | (simpa using h1) | (have h1q := h1; simp at h1q; omega) | (have h1q := bx1 h1; simp at h1q; omega)
    refine aw_p1 (
      .a 2 1 <| .p (does_i ((Int.tmod x n) + n) (wrap_i64 (by omega) (by omega)) .i64) <| .a 1 1 <| .nil _ _) ?_
    refine then_normal ?_
    refine aw_p 31 (
      .a 2 1 <| .nil _ _) ?_
    refine aw_rt ?_
    exact en_ret [.int .i64 ((Int.tmod x n) + n)] (show (.int .i64 ((Int.tmod x n) + n) : Value) = (.int .i64 (x % n)) from (congrArg (Value.int .i64) (show ((Int.tmod x n) + n) = (x % n) from by (first | exact Sp.below_neg h0 (by assumption) | exact Sp.below_pos h0 (by omega)))))
  · have h1p : ¬ (((Int.tmod x n) < 0)) := by first | (simpa using h1) | (have h1q := h1; simp at h1q; omega) | (have h1q := bx2 h1; simp at h1q; omega)
    refine aw_sk ?_
    refine then_normal ?_
    refine aw_p 31 (
      .a 2 1 <| .nil _ _) ?_
    refine aw_rt ?_
    exact en_ret [.int .i64 (Int.tmod x n)] (show (.int .i64 (Int.tmod x n) : Value) = (.int .i64 (x % n)) from (congrArg (Value.int .i64) (show (Int.tmod x n) = (x % n) from by (first | exact Sp.below_neg h0 (by assumption) | exact Sp.below_pos h0 (by omega)))))
theorem way_ok (ax ay bx b_y : Int) :
    AC Tryz.prog 67 0 ([.agg #[.int .i64 ax, .int .i64 ay], .agg #[.int .i64 bx, .int .i64 b_y]]) [] (.agg #[.int .i64 (Sp.lim 1048576 bx - Sp.lim 1048576 ax), .int .i64 (Sp.lim 1048576 b_y - Sp.lim 1048576 ay)]) [] := by
  have q1 := Sp.lim_bd (m := 1048576) (by decide) ax; have q2 := Sp.lim_bd (m := 1048576) (by decide) ay; have q3 := Sp.lim_bd (m := 1048576) (by decide) bx; have q4 := Sp.lim_bd (m := 1048576) (by decide) b_y
  refine ac_in Tryz.func67 (fun w0 W pin => ?_)
  refine aw_p 3 (
    .a 3 1 <| .nil _ _) ?_
  refine aw_d 7 (
    .a 1 4 <| .p (does_c (clamp_ok ax ay)) <| .a 1 4 <| .p (does_c (clamp_ok bx b_y)) <| .a 2 4 <| .nil _ _) ?_
  refine aw_p 15 (
    .a 4 4 <| .p (does_i ((Sp.lim 1048576 bx) - (Sp.lim 1048576 ax)) (wrap_i64 (by omega) (by omega)) .i64) <| .a 4 4 <| .p (does_i ((Sp.lim 1048576 b_y) - (Sp.lim 1048576 ay)) (wrap_i64 (by omega) (by omega)) .i64) <| .a 2 4 <| .nil _ _) ?_
  refine aw_rt ?_
  exact en_ret [.agg #[.int .i64 ((Sp.lim 1048576 bx) - (Sp.lim 1048576 ax)), .int .i64 ((Sp.lim 1048576 b_y) - (Sp.lim 1048576 ay))]] (show (.agg #[.int .i64 ((Sp.lim 1048576 bx) - (Sp.lim 1048576 ax)), .int .i64 ((Sp.lim 1048576 b_y) - (Sp.lim 1048576 ay))] : Value) = (.agg #[.int .i64 (Sp.lim 1048576 bx - Sp.lim 1048576 ax), .int .i64 (Sp.lim 1048576 b_y - Sp.lim 1048576 ay)]) from (congrArg (fun z : List Value => Value.agg z.toArray) (lcons (congrArg (Value.int .i64) (show ((Sp.lim 1048576 bx) - (Sp.lim 1048576 ax)) = (Sp.lim 1048576 bx - Sp.lim 1048576 ax) from by rfl)) (lcons (congrArg (Value.int .i64) (show ((Sp.lim 1048576 b_y) - (Sp.lim 1048576 ay)) = (Sp.lim 1048576 b_y - Sp.lim 1048576 ay) from by rfl)) rfl))))
theorem cross_ok (ax ay bx b_y cx cy : Int) :
    AC Tryz.prog 38 0 ([.agg #[.int .i64 ax, .int .i64 ay], .agg #[.int .i64 bx, .int .i64 b_y], .agg #[.int .i64 cx, .int .i64 cy]]) [] (.int .i64 (Sp.crs (Sp.lim 1048576 ax) (Sp.lim 1048576 ay) (Sp.lim 1048576 bx) (Sp.lim 1048576 b_y) (Sp.lim 1048576 cx) (Sp.lim 1048576 cy))) [] := by
  have qax := Sp.lim_bd (m := 1048576) (by decide) ax; have qay := Sp.lim_bd (m := 1048576) (by decide) ay; have qbx := Sp.lim_bd (m := 1048576) (by decide) bx; have qb_y := Sp.lim_bd (m := 1048576) (by decide) b_y; have qcx := Sp.lim_bd (m := 1048576) (by decide) cx; have qcy := Sp.lim_bd (m := 1048576) (by decide) cy; have p0 := Sp.mul_bd (a := Sp.lim 1048576 bx - Sp.lim 1048576 ax) (b := Sp.lim 1048576 cy - Sp.lim 1048576 ay) (A := 2097152) (B := 2097152) (by omega) (by omega) (by omega) (by omega); have p1 := Sp.mul_bd (a := Sp.lim 1048576 b_y - Sp.lim 1048576 ay) (b := Sp.lim 1048576 cx - Sp.lim 1048576 ax) (A := 2097152) (B := 2097152) (by omega) (by omega) (by omega) (by omega)
  refine ac_in Tryz.func38 (fun w0 W pin => ?_)
  refine aw_p 3 (
    .a 4 1 <| .nil _ _) ?_
  refine aw_d 7 (
    .a 2 4 <| .p (does_c (way_ok ax ay bx b_y)) <| .a 2 4 <| .p (does_c (way_ok ax ay cx cy)) <| .a 4 4 <| .nil _ _) ?_
  refine aw_p 15 (
    .a 4 6 <| .p (does_i ((Sp.lim 1048576 bx - Sp.lim 1048576 ax) * (Sp.lim 1048576 cy - Sp.lim 1048576 ay)) (wrap_i64 (by omega) (by omega)) .i64) <| .a 4 6 <| .p (does_i ((Sp.lim 1048576 b_y - Sp.lim 1048576 ay) * (Sp.lim 1048576 cx - Sp.lim 1048576 ax)) (wrap_i64 (by omega) (by omega)) .i64) <|
    .p (does_i (((Sp.lim 1048576 bx - Sp.lim 1048576 ax) * (Sp.lim 1048576 cy - Sp.lim 1048576 ay)) - ((Sp.lim 1048576 b_y - Sp.lim 1048576 ay) * (Sp.lim 1048576 cx - Sp.lim 1048576 ax))) (wrap_i64 (by omega) (by omega)) .i64) <| .a 1 6 <| .nil _ _) ?_
  refine aw_w [(6, .int .i64 (((Sp.lim 1048576 bx - Sp.lim 1048576 ax) * (Sp.lim 1048576 cy - Sp.lim 1048576 ay)) - ((Sp.lim 1048576 b_y - Sp.lim 1048576 ay) * (Sp.lim 1048576 cx - Sp.lim 1048576 ax))))] [] ?_
  refine aw_rt ?_
  exact en_ret [.int .i64 (((Sp.lim 1048576 bx - Sp.lim 1048576 ax) * (Sp.lim 1048576 cy - Sp.lim 1048576 ay)) - ((Sp.lim 1048576 b_y - Sp.lim 1048576 ay) * (Sp.lim 1048576 cx - Sp.lim 1048576 ax)))] (show (.int .i64 (((Sp.lim 1048576 bx - Sp.lim 1048576 ax) * (Sp.lim 1048576 cy - Sp.lim 1048576 ay)) - ((Sp.lim 1048576 b_y - Sp.lim 1048576 ay) * (Sp.lim 1048576 cx - Sp.lim 1048576 ax))) : Value) = (.int .i64 (Sp.crs (Sp.lim 1048576 ax) (Sp.lim 1048576 ay) (Sp.lim 1048576 bx) (Sp.lim 1048576 b_y) (Sp.lim 1048576 cx) (Sp.lim 1048576 cy))) from (congrArg (Value.int .i64) (show (((Sp.lim 1048576 bx - Sp.lim 1048576 ax) * (Sp.lim 1048576 cy - Sp.lim 1048576 ay)) - ((Sp.lim 1048576 b_y - Sp.lim 1048576 ay) * (Sp.lim 1048576 cx - Sp.lim 1048576 ax))) = (Sp.crs (Sp.lim 1048576 ax) (Sp.lim 1048576 ay) (Sp.lim 1048576 bx) (Sp.lim 1048576 b_y) (Sp.lim 1048576 cx) (Sp.lim 1048576 cy)) from by rfl)))
theorem dot_ok (ax ay bx b_y cx cy : Int) :
    AC Tryz.prog 68 0 ([.agg #[.int .i64 ax, .int .i64 ay], .agg #[.int .i64 bx, .int .i64 b_y], .agg #[.int .i64 cx, .int .i64 cy]]) [] (.int .i64 (Sp.dot (Sp.lim 1048576 ax) (Sp.lim 1048576 ay) (Sp.lim 1048576 bx) (Sp.lim 1048576 b_y) (Sp.lim 1048576 cx) (Sp.lim 1048576 cy))) [] := by
  have qax := Sp.lim_bd (m := 1048576) (by decide) ax; have qay := Sp.lim_bd (m := 1048576) (by decide) ay; have qbx := Sp.lim_bd (m := 1048576) (by decide) bx; have qb_y := Sp.lim_bd (m := 1048576) (by decide) b_y; have qcx := Sp.lim_bd (m := 1048576) (by decide) cx; have qcy := Sp.lim_bd (m := 1048576) (by decide) cy; have p0 := Sp.mul_bd (a := Sp.lim 1048576 bx - Sp.lim 1048576 ax) (b := Sp.lim 1048576 cx - Sp.lim 1048576 ax) (A := 2097152) (B := 2097152) (by omega) (by omega) (by omega) (by omega); have p1 := Sp.mul_bd (a := Sp.lim 1048576 b_y - Sp.lim 1048576 ay) (b := Sp.lim 1048576 cy - Sp.lim 1048576 ay) (A := 2097152) (B := 2097152) (by omega) (by omega) (by omega) (by omega)
  refine ac_in Tryz.func68 (fun w0 W pin => ?_)
  refine aw_p 3 (
    .a 4 1 <| .nil _ _) ?_
  refine aw_d 7 (
    .a 2 4 <| .p (does_c (way_ok ax ay bx b_y)) <| .a 2 4 <| .p (does_c (way_ok ax ay cx cy)) <| .a 4 4 <| .nil _ _) ?_
  refine aw_p 15 (
    .a 4 6 <| .p (does_i ((Sp.lim 1048576 bx - Sp.lim 1048576 ax) * (Sp.lim 1048576 cx - Sp.lim 1048576 ax)) (wrap_i64 (by omega) (by omega)) .i64) <| .a 4 6 <| .p (does_i ((Sp.lim 1048576 b_y - Sp.lim 1048576 ay) * (Sp.lim 1048576 cy - Sp.lim 1048576 ay)) (wrap_i64 (by omega) (by omega)) .i64) <|
    .p (does_i (((Sp.lim 1048576 bx - Sp.lim 1048576 ax) * (Sp.lim 1048576 cx - Sp.lim 1048576 ax)) + ((Sp.lim 1048576 b_y - Sp.lim 1048576 ay) * (Sp.lim 1048576 cy - Sp.lim 1048576 ay))) (wrap_i64 (by omega) (by omega)) .i64) <| .a 1 6 <| .nil _ _) ?_
  refine aw_w [(6, .int .i64 (((Sp.lim 1048576 bx - Sp.lim 1048576 ax) * (Sp.lim 1048576 cx - Sp.lim 1048576 ax)) + ((Sp.lim 1048576 b_y - Sp.lim 1048576 ay) * (Sp.lim 1048576 cy - Sp.lim 1048576 ay))))] [] ?_
  refine aw_rt ?_
  exact en_ret [.int .i64 (((Sp.lim 1048576 bx - Sp.lim 1048576 ax) * (Sp.lim 1048576 cx - Sp.lim 1048576 ax)) + ((Sp.lim 1048576 b_y - Sp.lim 1048576 ay) * (Sp.lim 1048576 cy - Sp.lim 1048576 ay)))] (show (.int .i64 (((Sp.lim 1048576 bx - Sp.lim 1048576 ax) * (Sp.lim 1048576 cx - Sp.lim 1048576 ax)) + ((Sp.lim 1048576 b_y - Sp.lim 1048576 ay) * (Sp.lim 1048576 cy - Sp.lim 1048576 ay))) : Value) = (.int .i64 (Sp.dot (Sp.lim 1048576 ax) (Sp.lim 1048576 ay) (Sp.lim 1048576 bx) (Sp.lim 1048576 b_y) (Sp.lim 1048576 cx) (Sp.lim 1048576 cy))) from (congrArg (Value.int .i64) (show (((Sp.lim 1048576 bx - Sp.lim 1048576 ax) * (Sp.lim 1048576 cx - Sp.lim 1048576 ax)) + ((Sp.lim 1048576 b_y - Sp.lim 1048576 ay) * (Sp.lim 1048576 cy - Sp.lim 1048576 ay))) = (Sp.dot (Sp.lim 1048576 ax) (Sp.lim 1048576 ay) (Sp.lim 1048576 bx) (Sp.lim 1048576 b_y) (Sp.lim 1048576 cx) (Sp.lim 1048576 cy)) from by rfl)))
theorem turn_ok (ax ay bx b_y cx cy : Int) :
    AC Tryz.prog 40 0 ([.agg #[.int .i64 ax, .int .i64 ay], .agg #[.int .i64 bx, .int .i64 b_y], .agg #[.int .i64 cx, .int .i64 cy]]) [] (.int .i64 (Sp.cmp (Sp.crs (Sp.lim 1048576 ax) (Sp.lim 1048576 ay) (Sp.lim 1048576 bx) (Sp.lim 1048576 b_y) (Sp.lim 1048576 cx) (Sp.lim 1048576 cy)) 0)) [] := by
  refine ac_in Tryz.func40 (fun w0 W pin => ?_)
  refine aw_p 3 (
    .a 4 1 <| .nil _ _) ?_
  refine aw_p 7 (
    .a 3 4 <| .p (does_c (cross_ok ax ay bx b_y cx cy)) <| .p (does_c (compare_ok (Sp.crs (Sp.lim 1048576 ax) (Sp.lim 1048576 ay) (Sp.lim 1048576 bx) (Sp.lim 1048576 b_y) (Sp.lim 1048576 cx) (Sp.lim 1048576 cy)) 0)) <| .a 1 4 <| .nil _ _) ?_
  refine aw_rt ?_
  exact en_ret [.int .i64 (Sp.cmp (Sp.crs (Sp.lim 1048576 ax) (Sp.lim 1048576 ay) (Sp.lim 1048576 bx) (Sp.lim 1048576 b_y) (Sp.lim 1048576 cx) (Sp.lim 1048576 cy)) 0)] (by kernel_rfl)
theorem on_ok (ax ay bx b_y px py : Int) :
    AC Tryz.prog 39 0 ([.agg #[.int .i64 ax, .int .i64 ay], .agg #[.int .i64 bx, .int .i64 b_y], .agg #[.int .i64 px, .int .i64 py]]) [] (.bool (Sp.onb (Sp.lim 1048576 ax) (Sp.lim 1048576 ay) (Sp.lim 1048576 bx) (Sp.lim 1048576 b_y) (Sp.lim 1048576 px) (Sp.lim 1048576 py))) [] := by
  refine ac_in Tryz.func39 (fun w0 W pin => ?_)
  refine aw_p 3 (
    .a 4 1 <| .nil _ _) ?_
  rcases Bool.eq_false_or_eq_true ((Sp.cmp (Sp.crs (Sp.lim 1048576 ax) (Sp.lim 1048576 ay) (Sp.lim 1048576 bx) (Sp.lim 1048576 b_y) (Sp.lim 1048576 px) (Sp.lim 1048576 py)) 0) == 0) with h1 | h1
  · have h1p : (((Sp.cmp (Sp.crs (Sp.lim 1048576 ax) (Sp.lim 1048576 ay) (Sp.lim 1048576 bx) (Sp.lim 1048576 b_y) (Sp.lim 1048576 px) (Sp.lim 1048576 py)) 0) = 0)) := by first | (simpa using h1) | (have h1q := h1; simp at h1q; omega) | (have h1q := bx1 h1; simp at h1q; omega)
    refine aw_p 7 (
      .a 3 4 <| .p (does_c (turn_ok ax ay bx b_y px py)) <| .p (does_b true (h1)) <| .a 4 4 <| .p (does_c (dot_ok px py ax ay bx b_y)) <| .a 3 4 <| .nil _ _) ?_
    refine aw_rt ?_
    exact en_ret [.bool (decide ((Sp.dot (Sp.lim 1048576 px) (Sp.lim 1048576 py) (Sp.lim 1048576 ax) (Sp.lim 1048576 ay) (Sp.lim 1048576 bx) (Sp.lim 1048576 b_y)) ≤ 0))] (show (.bool (decide ((Sp.dot (Sp.lim 1048576 px) (Sp.lim 1048576 py) (Sp.lim 1048576 ax) (Sp.lim 1048576 ay) (Sp.lim 1048576 bx) (Sp.lim 1048576 b_y)) ≤ 0)) : Value) = (.bool (Sp.onb (Sp.lim 1048576 ax) (Sp.lim 1048576 ay) (Sp.lim 1048576 bx) (Sp.lim 1048576 b_y) (Sp.lim 1048576 px) (Sp.lim 1048576 py))) from (congrArg Value.bool (show (decide ((Sp.dot (Sp.lim 1048576 px) (Sp.lim 1048576 py) (Sp.lim 1048576 ax) (Sp.lim 1048576 ay) (Sp.lim 1048576 bx) (Sp.lim 1048576 b_y)) ≤ 0)) = (Sp.onb (Sp.lim 1048576 ax) (Sp.lim 1048576 ay) (Sp.lim 1048576 bx) (Sp.lim 1048576 b_y) (Sp.lim 1048576 px) (Sp.lim 1048576 py)) from by (simp [Sp.onb, *]))))
  · have h1p : ¬ (((Sp.cmp (Sp.crs (Sp.lim 1048576 ax) (Sp.lim 1048576 ay) (Sp.lim 1048576 bx) (Sp.lim 1048576 b_y) (Sp.lim 1048576 px) (Sp.lim 1048576 py)) 0) = 0)) := by first | (simpa using h1) | (have h1q := h1; simp at h1q; omega) | (have h1q := bx2 h1; simp at h1q; omega)
    refine aw_p 7 (
      .a 3 4 <| .p (does_c (turn_ok ax ay bx b_y px py)) <| .p (does_b false (h1)) <| .a 8 4 <| .nil _ _) ?_
    refine aw_rt ?_
    exact en_ret [.bool false] (show (.bool false : Value) = (.bool (Sp.onb (Sp.lim 1048576 ax) (Sp.lim 1048576 ay) (Sp.lim 1048576 bx) (Sp.lim 1048576 b_y) (Sp.lim 1048576 px) (Sp.lim 1048576 py))) from (congrArg Value.bool (show false = (Sp.onb (Sp.lim 1048576 ax) (Sp.lim 1048576 ay) (Sp.lim 1048576 bx) (Sp.lim 1048576 b_y) (Sp.lim 1048576 px) (Sp.lim 1048576 py)) from by (simp [Sp.onb, *]))))
theorem pcmp_ok (ax ay bx b_y : Int) :
    AC Tryz.prog 33 0 ([.agg #[.int .i64 ax, .int .i64 ay], .agg #[.int .i64 bx, .int .i64 b_y]]) [] (.int .i64 (Sp.pcmp ax ay bx b_y)) [] := by
  refine ac_in Tryz.func33 (fun w0 W pin => ?_)
  refine aw_p 3 (
    .a 3 1 <| .nil _ _) ?_
  refine aw_sq 6 7 ?_
  refine aw_p 13 (
    .a 4 3 <| .p (does_c (compare_ok ax bx)) <| .a 1 3 <| .nil _ _) ?_
  refine aw_p 27 (
    .a 2 3 <| .nil _ _) ?_
  refine aw_cd 54 55 ((Sp.cmp ax bx) != 0) (fun h1 => ?_) (fun h1 => ?_)
  · have h1p : (¬ ((Sp.cmp ax bx) = 0)) := by first | (simpa using h1) | (have h1q := h1; simp at h1q; omega) | (have h1q := bx1 h1; simp at h1q; omega)
    refine aw_p 109 (
      .a 2 3 <| .nil _ _) ?_
    refine aw_rt ?_
    refine then_ret ?_
    exact en_ret [.int .i64 (Sp.cmp ax bx)] (show (.int .i64 (Sp.cmp ax bx) : Value) = (.int .i64 (Sp.pcmp ax ay bx b_y)) from (congrArg (Value.int .i64) (show (Sp.cmp ax bx) = (Sp.pcmp ax ay bx b_y) from by (simp [Sp.pcmp, *]))))
  · have h1p : ¬ (¬ ((Sp.cmp ax bx) = 0)) := by first | (simpa using h1) | (have h1q := h1; simp at h1q; omega) | (have h1q := bx2 h1; simp at h1q; omega)
    refine aw_sk ?_
    refine then_normal ?_
    refine aw_p 15 (
      .a 4 3 <| .p (does_c (compare_ok ay b_y)) <| .a 1 3 <| .nil _ _) ?_
    refine aw_rt ?_
    exact en_ret [.int .i64 (Sp.cmp ay b_y)] (show (.int .i64 (Sp.cmp ay b_y) : Value) = (.int .i64 (Sp.pcmp ax ay bx b_y)) from (congrArg (Value.int .i64) (show (Sp.cmp ay b_y) = (Sp.pcmp ax ay bx b_y) from by (simp [Sp.pcmp, *]))))
theorem next_own (xs : List Int) (p : Nat) (n : Int) (hp : p < xs.length) (h0 : 0 < n) (hz : n ≤ 9223372036854775807) :
    AC Tryz.prog 23 2 ([.pointer (some ⟨0, 0, none⟩), .int .i64 n]) [(0, ⟨[.slice (some ⟨1, p, none⟩) (xs.length - p) 0], 60, true, 1⟩), (1, ⟨(xs.map i64v), 3, true, 1⟩)] (.int .i64 (xs.getD p 0 % n)) [(0, ⟨[.slice (some ⟨1, (p + 1), none⟩) (xs.length - p - 1) 0], 60, true, 1⟩), (1, ⟨(xs.map i64v), 3, true, 1⟩)] := by
  refine ac_in Tryz.func23 (fun w0 W pin => ?_)
  refine aw_p 3 (
    .a 1 2 <| .nil _ _) ?_
  refine aw_sq 6 7 ?_
  refine aw_p 13 (
    .a 5 2 <| .p (does_b false ((show ((((xs.length - p) : Nat) : Int) == 0) = false from by rw [beq_eq_false_iff_ne]; omega))) <| .a 2 2 <| .p (does_b false ((show (decide (n < 1)) = false from decide_eq_false (by omega)))) <| .a 1 2 <| .nil _ _) ?_
  refine aw_fl 27 ?_
  refine aw_sk ?_
  refine then_normal ?_
  refine aw_p 15 (
    .a 4 2 <| .p (does_indexSlice (t := 22) (x := .tmp 19) (y := .const (.int .i64 0)) (k := 1) (off := p) (n := (xs.length - p)) (c := 0) (z := 1) (kd := .i64) (j := 0) (by kernel_rfl) (by kernel_rfl) (by kernel_rfl) (by kernel_rfl) (by kernel_rfl) (by omega) (by omega)) <|
    .p (does_load (t := 3) (x := .tmp 20) (k := 1) (off := p + 0 * 1) (b := ⟨(xs.map i64v), 3, true, 1⟩) (v := .int .i64 (xs.getD p 0)) (by kernel_rfl) (by kernel_rfl) (by kernel_rfl) (ldV_map (f := i64v) (j := p) 0 (by kernel_rfl) (by kernel_rfl) hp)) <| .a 1 2 <| .nil _ _) ?_
  refine aw_p 31 (
    .a 5 2 <|
    .p (does_val (v' := .slice (some ⟨1, (p + 1), none⟩) ((xs.length - p) - 1) 0) (does_slice (t := 22) (x := .tmp 26) (lo := some (.const (.int .i64 1))) (hi := none) (k := 1) (off := p) (n := (xs.length - p)) (c := 0) (z := 1) (l := 1) (h := (((xs.length - p) : Nat) : Int)) (m := ((xs.length - p) - 1)) (b := ⟨(xs.map i64v), 3, true, 1⟩) (by kernel_rfl) (by kernel_rfl) (by kernel_rfl) (by kernel_rfl) (by kernel_rfl) (by kernel_rfl) (by kernel_rfl) (by kernel_rfl) (by omega) (by omega) (by omega) (by omega)) (by kernel_rfl)) <|
    .a 3 2 <| .nil _ _) ?_
  refine aw_w [(1, .int .i64 n), (4, .int .i64 0), (5, .int .i64 (xs.getD p 0))] [(0, ⟨[.slice (some ⟨1, (p + 1), none⟩) ((xs.length - p) - 1) 0], 60, true, 1⟩), (1, ⟨(xs.map i64v), 3, true, 1⟩)] ?_ (hc := (by simp [closedB, valsB, valB, flats_map, List.all_eq_true, i64v, flat1]; try decide))
  refine aw_p 63 (
    .a 2 2 <| .p (does_c (below_ok (xs.getD p 0) n (by omega) (by omega))) <| .a 1 2 <| .nil _ _) ?_
  refine aw_rt ?_
  exact en_ret [.int .i64 ((xs.getD p 0) % n)] (show (.int .i64 ((xs.getD p 0) % n) : Value) = (.int .i64 (xs.getD p 0 % n)) from (congrArg (Value.int .i64) (show ((xs.getD p 0) % n) = (xs.getD p 0 % n) from by rfl)))
theorem next0_own (xs : List Int) (p : Nat) (n : Int) (hp : ¬ p < xs.length) :
    AC Tryz.prog 23 2 ([.pointer (some ⟨0, 0, none⟩), .int .i64 n]) [(0, ⟨[.slice (some ⟨1, p, none⟩) (xs.length - p) 0], 60, true, 1⟩), (1, ⟨(xs.map i64v), 3, true, 1⟩)] (.int .i64 0) [(0, ⟨[.slice (some ⟨1, p, none⟩) (xs.length - p) 0], 60, true, 1⟩), (1, ⟨(xs.map i64v), 3, true, 1⟩)] := by
  refine ac_in Tryz.func23 (fun w0 W pin => ?_)
  refine aw_p 3 (
    .a 1 2 <| .nil _ _) ?_
  refine aw_sq 6 7 ?_
  refine aw_p 13 (
    .a 5 2 <| .p (does_b true ((show ((((xs.length - p) : Nat) : Int) == 0) = true from by rw [beq_iff_eq]; omega))) <| .a 4 2 <| .nil _ _) ?_
  refine aw_tr 26 ?_
  refine aw_p 53 (
    .a 1 2 <| .nil _ _) ?_
  refine aw_rt ?_
  refine then_ret ?_
  exact en_ret [.int .i64 0] (by kernel_rfl)
theorem next_ro (xs : List Int) (p : Nat) (n : Int) (hp : p < xs.length) (h0 : 0 < n) (hz : n ≤ 9223372036854775807) :
    AC Tryz.prog 23 2 ([.pointer (some ⟨0, 0, none⟩), .int .i64 n]) [(0, ⟨[.slice (some ⟨1, p, none⟩) (xs.length - p) 0], 60, true, 1⟩), (1, ⟨(xs.map i64v), 3, false, 1⟩)] (.int .i64 (xs.getD p 0 % n)) [(0, ⟨[.slice (some ⟨1, (p + 1), none⟩) (xs.length - p - 1) 0], 60, true, 1⟩)] := by
  refine ac_in Tryz.func23 (fun w0 W pin => ?_)
  refine aw_p 3 (
    .a 1 2 <| .nil _ _) ?_
  refine aw_sq 6 7 ?_
  refine aw_p 13 (
    .a 5 2 <| .p (does_b false ((show ((((xs.length - p) : Nat) : Int) == 0) = false from by rw [beq_eq_false_iff_ne]; omega))) <| .a 2 2 <| .p (does_b false ((show (decide (n < 1)) = false from decide_eq_false (by omega)))) <| .a 1 2 <| .nil _ _) ?_
  refine aw_fl 27 ?_
  refine aw_sk ?_
  refine then_normal ?_
  refine aw_p 15 (
    .a 4 2 <| .p (does_indexSlice (t := 22) (x := .tmp 19) (y := .const (.int .i64 0)) (k := 1) (off := p) (n := (xs.length - p)) (c := 0) (z := 1) (kd := .i64) (j := 0) (by kernel_rfl) (by kernel_rfl) (by kernel_rfl) (by kernel_rfl) (by kernel_rfl) (by omega) (by omega)) <|
    .p (does_load (t := 3) (x := .tmp 20) (k := 1) (off := p + 0 * 1) (b := ⟨(xs.map i64v), 3, false, 1⟩) (v := .int .i64 (xs.getD p 0)) (by kernel_rfl) (by kernel_rfl) (by kernel_rfl) (ldV_map (f := i64v) (j := p) 0 (by kernel_rfl) (by kernel_rfl) hp)) <| .a 1 2 <| .nil _ _) ?_
  refine aw_p 31 (
    .a 5 2 <|
    .p (does_val (v' := .slice (some ⟨1, (p + 1), none⟩) ((xs.length - p) - 1) 0) (does_slice (t := 22) (x := .tmp 26) (lo := some (.const (.int .i64 1))) (hi := none) (k := 1) (off := p) (n := (xs.length - p)) (c := 0) (z := 1) (l := 1) (h := (((xs.length - p) : Nat) : Int)) (m := ((xs.length - p) - 1)) (b := ⟨(xs.map i64v), 3, false, 1⟩) (by kernel_rfl) (by kernel_rfl) (by kernel_rfl) (by kernel_rfl) (by kernel_rfl) (by kernel_rfl) (by kernel_rfl) (by kernel_rfl) (by omega) (by omega) (by omega) (by omega)) (by kernel_rfl)) <|
    .a 3 2 <| .nil _ _) ?_
  refine aw_w [(1, .int .i64 n), (4, .int .i64 0), (5, .int .i64 (xs.getD p 0))] [(0, ⟨[.slice (some ⟨1, (p + 1), none⟩) ((xs.length - p) - 1) 0], 60, true, 1⟩), (1, ⟨(xs.map i64v), 3, false, 1⟩)] ?_ (hc := (by simp [closedB, valsB, valB, flats_map, List.all_eq_true, i64v, flat1]; try decide))
  refine aw_p 63 (
    .a 2 2 <| .p (does_c (below_ok (xs.getD p 0) n (by omega) (by omega))) <| .a 1 2 <| .nil _ _) ?_
  refine aw_rt ?_
  exact en_ret [.int .i64 ((xs.getD p 0) % n)] (show (.int .i64 ((xs.getD p 0) % n) : Value) = (.int .i64 (xs.getD p 0 % n)) from (congrArg (Value.int .i64) (show ((xs.getD p 0) % n) = (xs.getD p 0 % n) from by rfl)))
theorem next0_ro (xs : List Int) (p : Nat) (n : Int) (hp : ¬ p < xs.length) :
    AC Tryz.prog 23 2 ([.pointer (some ⟨0, 0, none⟩), .int .i64 n]) [(0, ⟨[.slice (some ⟨1, p, none⟩) (xs.length - p) 0], 60, true, 1⟩), (1, ⟨(xs.map i64v), 3, false, 1⟩)] (.int .i64 0) [(0, ⟨[.slice (some ⟨1, p, none⟩) (xs.length - p) 0], 60, true, 1⟩)] := by
  refine ac_in Tryz.func23 (fun w0 W pin => ?_)
  refine aw_p 3 (
    .a 1 2 <| .nil _ _) ?_
  refine aw_sq 6 7 ?_
  refine aw_p 13 (
    .a 5 2 <| .p (does_b true ((show ((((xs.length - p) : Nat) : Int) == 0) = true from by rw [beq_iff_eq]; omega))) <| .a 4 2 <| .nil _ _) ?_
  refine aw_tr 26 ?_
  refine aw_p 53 (
    .a 1 2 <| .nil _ _) ?_
  refine aw_rt ?_
  refine then_ret ?_
  exact en_ret [.int .i64 0] (by kernel_rfl)
theorem spoint_ok (x y : Int) :
    AC Tryz.prog 51 2 ([.pointer (some ⟨0, 0, none⟩)]) [(0, ⟨[sV 1 2], 60, true, 1⟩), (1, ⟨[.int .i64 x, .int .i64 y], 3, true, 1⟩)] (.agg #[.int .i64 (x % 81 - 40), .int .i64 (y % 81 - 40)]) [(0, ⟨[.slice (some ⟨1, 2, none⟩) 0 0], 60, true, 1⟩), (1, ⟨[.int .i64 x, .int .i64 y], 3, true, 1⟩)] := by
  have q1 := Sp.emod_bd x (n := 81) (by decide); have q2 := Sp.emod_bd y (n := 81) (by decide)
  refine ac_in Tryz.func51 (fun w0 W pin => ?_)
  refine aw_p 3 (
    .a 1 2 <| .nil _ _) ?_
  refine aw_p 7 (
    .a 1 3 <|
    .p (cF #[.tmp 3, .const (.int .i64 81)] #[58, 3] [.pointer (some ⟨0, 0, none⟩), .int .i64 81] 0 [0, 1] [(0, ⟨[sV 1 2], 60, true, 1⟩), (1, ⟨[.int .i64 x, .int .i64 y], 3, true, 1⟩)] [(0, ⟨[.slice (some ⟨1, 1, none⟩) 1 0], 60, true, 1⟩), (1, ⟨[.int .i64 x, .int .i64 y], 3, true, 1⟩)] (.int .i64 (x % 81)) (next_own ([x, y]) 0 81 (by simp) (by decide) (by decide)) (.cons (.ptr _ _ (by decide)) (.cons rF .nil)) ⟨rfl, ⟨rfl, rfl, rfl, (.cons rS .nil)⟩, rfl, ⟨rfl, rfl, rfl, (.flats (flats_map (fun _ => rfl) _))⟩, trivial⟩ ⟨rfl, ⟨rfl, rfl, rfl, (.cons rS .nil)⟩, rfl, ⟨rfl, rfl, rfl, (.flats (flats_map (fun _ => rfl) _))⟩, trivial⟩ rF) <|
    .p (does_i ((x % 81) - 40) (wrap_i64 (by omega) (by omega)) .i64) <| .a 1 3 <|
    .p (cF #[.tmp 6, .const (.int .i64 81)] #[58, 3] [.pointer (some ⟨0, 0, none⟩), .int .i64 81] 0 [0, 1] [(0, ⟨[.slice (some ⟨1, 1, none⟩) 1 0], 60, true, 1⟩), (1, ⟨[.int .i64 x, .int .i64 y], 3, true, 1⟩)] [(0, ⟨[.slice (some ⟨1, 2, none⟩) 0 0], 60, true, 1⟩), (1, ⟨[.int .i64 x, .int .i64 y], 3, true, 1⟩)] (.int .i64 (y % 81)) (next_own ([x, y]) 1 81 (by simp) (by decide) (by decide)) (.cons (.ptr _ _ (by decide)) (.cons rF .nil)) ⟨rfl, ⟨rfl, rfl, rfl, (.cons rS .nil)⟩, rfl, ⟨rfl, rfl, rfl, (.flats (flats_map (fun _ => rfl) _))⟩, trivial⟩ ⟨rfl, ⟨rfl, rfl, rfl, (.cons rS .nil)⟩, rfl, ⟨rfl, rfl, rfl, (.flats (flats_map (fun _ => rfl) _))⟩, trivial⟩ rF) <|
    .p (does_i ((y % 81) - 40) (wrap_i64 (by omega) (by omega)) .i64) <| .a 2 3 <| .nil _ _) ?_
  refine aw_rt ?_
  exact en_ret [.agg #[.int .i64 ((x % 81) - 40), .int .i64 ((y % 81) - 40)]] (show (.agg #[.int .i64 ((x % 81) - 40), .int .i64 ((y % 81) - 40)] : Value) = (.agg #[.int .i64 (x % 81 - 40), .int .i64 (y % 81 - 40)]) from (congrArg (fun z : List Value => Value.agg z.toArray) (lcons (congrArg (Value.int .i64) (show ((x % 81) - 40) = (x % 81 - 40) from by rfl)) (lcons (congrArg (Value.int .i64) (show ((y % 81) - 40) = (y % 81 - 40) from by rfl)) rfl))))
theorem mpoint_ok (x y : Int) :
    AC Tryz.prog 26 1 ([sV 0 2]) [(0, ⟨[.int .i64 x, .int .i64 y], 3, true, 1⟩)] (.agg #[.int .i64 (x % 81 - 40), .int .i64 (y % 81 - 40)]) [(0, ⟨[.int .i64 x, .int .i64 y], 3, true, 1⟩)] := by
  refine ac_in Tryz.func26 (fun w0 W pin => ?_)
  refine aw_p 3 (
    .a 1 1 <| .nil _ _) ?_
  refine aw_p 7 (
    .a 3 2 <| .p (does_k [2, 0] (spoint_ok x y)) <| .a 1 3 <| .nil _ _) ?_
  refine aw_rt ?_
  exact en_ret [.agg #[.int .i64 (x % 81 - 40), .int .i64 (y % 81 - 40)]] (by kernel_rfl)
theorem turn_in (ax ay bx b_y cx cy : Int) (axl : -1048576 ≤ ax) (axu : ax ≤ 1048576) (ayl : -1048576 ≤ ay) (ayu : ay ≤ 1048576) (bxl : -1048576 ≤ bx) (bxu : bx ≤ 1048576) (b_yl : -1048576 ≤ b_y) (b_yu : b_y ≤ 1048576) (cxl : -1048576 ≤ cx) (cxu : cx ≤ 1048576) (cyl : -1048576 ≤ cy) (cyu : cy ≤ 1048576) : AC Tryz.prog 40 0 [.agg #[.int .i64 ax, .int .i64 ay], .agg #[.int .i64 bx, .int .i64 b_y], .agg #[.int .i64 cx, .int .i64 cy]] [] (.int .i64 (Sp.cmp (Sp.crs ax ay bx b_y cx cy) 0)) [] := by
  have h := turn_ok ax ay bx b_y cx cy
  simp only [Sp.lim_id axl axu, Sp.lim_id ayl ayu, Sp.lim_id bxl bxu, Sp.lim_id b_yl b_yu, Sp.lim_id cxl cxu, Sp.lim_id cyl cyu] at h
  exact h
theorem on_in (ax ay bx b_y cx cy : Int) (axl : -1048576 ≤ ax) (axu : ax ≤ 1048576) (ayl : -1048576 ≤ ay) (ayu : ay ≤ 1048576) (bxl : -1048576 ≤ bx) (bxu : bx ≤ 1048576) (b_yl : -1048576 ≤ b_y) (b_yu : b_y ≤ 1048576) (cxl : -1048576 ≤ cx) (cxu : cx ≤ 1048576) (cyl : -1048576 ≤ cy) (cyu : cy ≤ 1048576) : AC Tryz.prog 39 0 [.agg #[.int .i64 ax, .int .i64 ay], .agg #[.int .i64 bx, .int .i64 b_y], .agg #[.int .i64 cx, .int .i64 cy]] [] (.bool (Sp.onb ax ay bx b_y cx cy)) [] := by
  have h := on_ok ax ay bx b_y cx cy
  simp only [Sp.lim_id axl axu, Sp.lim_id ayl ayu, Sp.lim_id bxl bxu, Sp.lim_id b_yl b_yu, Sp.lim_id cxl cxu, Sp.lim_id cyl cyu] at h
  exact h
end Go.Proofs.YtndkhgfecnbmnaaGreat.Am

namespace Go.Proofs.YtndkhgfecnbmnaaGreat.Am
open Go Go.Proofs
set_option maxRecDepth 100000
set_option maxHeartbeats 4000000
set_option linter.unusedVariables false
set_option linter.unusedSimpArgs false
theorem asq1_ok (x y r : Int) (x0 : -1000 ≤ x) (x1 : x ≤ 1000) (y0 : -1000 ≤ y) (y1 : y ≤ 1000) (r0 : -1000 ≤ r) (r1 : r ≤ 1000) :
    AC Tryz.prog 24 0 ([.int .i64 x, .int .i64 y, .int .i64 r]) [] (sV 0 4) [(0, (pB (Sp.sqr x y r)))] := by
  refine ac_in Tryz.func24 (fun w0 W pin => ?_)
  refine aw_p 3 (
    .a 1 0 <| .nil _ _) ?_
  refine aw_p 7 (
    .a 2 0 <| .p (does_i (x - r) (wrap_i64 (by omega) (by omega)) .i64) <| .a 2 0 <| .p (does_i (y - r) (wrap_i64 (by omega) (by omega)) .i64) <| .a 3 0 <| .p (does_i (x + r) (wrap_i64 (by omega) (by omega)) .i64) <| .a 2 0 <| .p (does_i (y - r) (wrap_i64 (by omega) (by omega)) .i64) <| .a 3 0 <|
    .p (does_i (x + r) (wrap_i64 (by omega) (by omega)) .i64) <| .a 2 0 <| .p (does_i (y + r) (wrap_i64 (by omega) (by omega)) .i64) <| .a 3 0 <| .p (does_i (x - r) (wrap_i64 (by omega) (by omega)) .i64) <| .a 2 0 <| .p (does_i (y + r) (wrap_i64 (by omega) (by omega)) .i64) <| .a 3 0 <| .nil _ _) ?_
  refine aw_w [(0, .int .i64 x), (1, .int .i64 y), (2, .int .i64 r), (6, sV 0 4), (7, .int .i64 x), (8, .int .i64 r), (9, .int .i64 (x - r)), (10, .int .i64 y), (11, .int .i64 r), (12, .int .i64 (y - r)), (13, .agg #[.int .i64 (x - r), .int .i64 (y - r)]), (14, .int .i64 x), (15, .int .i64 r), (16, .int .i64 (x + r)), (17, .int .i64 y), (18, .int .i64 r), (19, .int .i64 (y - r)), (20, .agg #[.int .i64 (x + r), .int .i64 (y - r)]), (21, .int .i64 x), (22, .int .i64 r), (23, .int .i64 (x + r)), (24, .int .i64 y), (25, .int .i64 r), (26, .int .i64 (y + r)), (27, .agg #[.int .i64 (x + r), .int .i64 (y + r)]), (28, .int .i64 x), (29, .int .i64 r), (30, .int .i64 (x - r)), (31, .int .i64 y), (32, .int .i64 r), (33, .int .i64 (y + r)), (34, .agg #[.int .i64 (x - r), .int .i64 (y + r)]), (35, sV 0 4)] [(0, (pB (Sp.sqr x y r)))] ?_ (by kernel_rfl) (by kernel_rfl) (hc := (by simp [closedB, valsB, valB, List.all_eq_true, List.mem_flatMap, List.mem_range, List.mem_map, i64v, ptc, Sp.sqr, flat1]; try (intros; simp [valsB, valB, flat1]); try decide))
  refine aw_rt ?_
  exact en_ret [sV 0 4] (by kernel_rfl)
theorem asq2_ok (x y r : Int) (x0 : -1000 ≤ x) (x1 : x ≤ 1000) (y0 : -1000 ≤ y) (y1 : y ≤ 1000) (r0 : -1000 ≤ r) (r1 : r ≤ 1000) :
    AC Tryz.prog 25 0 ([.int .i64 x, .int .i64 y, .int .i64 r]) [] (sV 0 4) [(0, (pB (Sp.hol x y r)))] := by
  refine ac_in Tryz.func25 (fun w0 W pin => ?_)
  refine aw_p 3 (
    .a 1 0 <| .nil _ _) ?_
  refine aw_p 7 (
    .a 2 0 <| .p (does_i (x - r) (wrap_i64 (by omega) (by omega)) .i64) <| .a 2 0 <| .p (does_i (y - r) (wrap_i64 (by omega) (by omega)) .i64) <| .a 3 0 <| .p (does_i (x - r) (wrap_i64 (by omega) (by omega)) .i64) <| .a 2 0 <| .p (does_i (y + r) (wrap_i64 (by omega) (by omega)) .i64) <| .a 3 0 <|
    .p (does_i (x + r) (wrap_i64 (by omega) (by omega)) .i64) <| .a 2 0 <| .p (does_i (y + r) (wrap_i64 (by omega) (by omega)) .i64) <| .a 3 0 <| .p (does_i (x + r) (wrap_i64 (by omega) (by omega)) .i64) <| .a 2 0 <| .p (does_i (y - r) (wrap_i64 (by omega) (by omega)) .i64) <| .a 3 0 <| .nil _ _) ?_
  refine aw_w [(0, .int .i64 x), (1, .int .i64 y), (2, .int .i64 r), (6, sV 0 4), (7, .int .i64 x), (8, .int .i64 r), (9, .int .i64 (x - r)), (10, .int .i64 y), (11, .int .i64 r), (12, .int .i64 (y - r)), (13, .agg #[.int .i64 (x - r), .int .i64 (y - r)]), (14, .int .i64 x), (15, .int .i64 r), (16, .int .i64 (x - r)), (17, .int .i64 y), (18, .int .i64 r), (19, .int .i64 (y + r)), (20, .agg #[.int .i64 (x - r), .int .i64 (y + r)]), (21, .int .i64 x), (22, .int .i64 r), (23, .int .i64 (x + r)), (24, .int .i64 y), (25, .int .i64 r), (26, .int .i64 (y + r)), (27, .agg #[.int .i64 (x + r), .int .i64 (y + r)]), (28, .int .i64 x), (29, .int .i64 r), (30, .int .i64 (x + r)), (31, .int .i64 y), (32, .int .i64 r), (33, .int .i64 (y - r)), (34, .agg #[.int .i64 (x + r), .int .i64 (y - r)]), (35, sV 0 4)] [(0, (pB (Sp.hol x y r)))] ?_ (by kernel_rfl) (by kernel_rfl) (hc := (by simp [closedB, valsB, valB, List.all_eq_true, List.mem_flatMap, List.mem_range, List.mem_map, i64v, ptc, Sp.hol, flat1]; try (intros; simp [valsB, valB, flat1]); try decide))
  refine aw_rt ?_
  exact en_ret [sV 0 4] (by kernel_rfl)
theorem nextz (xs : List Int) (p : Nat) (n : Int) (h0 : 0 < n) (hz : n ≤ 9223372036854775807) : AC Tryz.prog 23 2 [.pointer (some ⟨0, 0, none⟩), .int .i64 n] [(0, ⟨[.slice (some ⟨1, (min p xs.length), none⟩) (xs.length - p) 0], 60, true, 1⟩), (1, ⟨(xs.map i64v), 3, false, 1⟩)] (.int .i64 (xs.getD p 0 % n)) [(0, ⟨[.slice (some ⟨1, (min (p + 1) xs.length), none⟩) (xs.length - (p + 1)) 0], 60, true, 1⟩)] := by
  by_cases hp : p < xs.length
  · have h := next_ro xs p n hp h0 hz
    rw [show min p xs.length = p by omega, show min (p + 1) xs.length = p + 1 by omega, Nat.sub_add_eq]
    exact h
  · have h := next0_ro xs (min p xs.length) n (by omega)
    rw [show xs.length - min p xs.length = 0 by omega] at h
    rw [show min (p + 1) xs.length = min p xs.length by omega, show xs.length - p = 0 by omega, show xs.length - (p + 1) = 0 by omega, show xs.getD p 0 = 0 by simp [List.getD, List.getElem?_eq_none (Nat.le_of_not_lt hp)], Int.zero_emod]
    exact h
theorem nextz0 (xs : List Int) (n : Int) (h0 : 0 < n) (hz : n ≤ 9223372036854775807) : AC Tryz.prog 23 2 [.pointer (some ⟨0, 0, none⟩), .int .i64 n] [(0, ⟨[.slice (some ⟨1, 0, none⟩) (xs.length) 0], 60, true, 1⟩), (1, ⟨(xs.map i64v), 3, false, 1⟩)] (.int .i64 (xs.getD 0 0 % n)) [(0, ⟨[.slice (some ⟨1, (min (0 + 1) xs.length), none⟩) (xs.length - (0 + 1)) 0], 60, true, 1⟩)] := by
  have h := nextz xs 0 n h0 hz
  rw [Nat.zero_min, Nat.sub_zero] at h
  exact h
end Go.Proofs.YtndkhgfecnbmnaaGreat.Am

namespace Go.Proofs.YtndkhgfecnbmnaaGreat.Am
open Go Go.Proofs
set_option maxRecDepth 100000
set_option maxHeartbeats 4000000
set_option linter.unusedVariables false
set_option linter.unusedSimpArgs false
theorem marea_0 (xs : List Int) (hs : xs.getD 3 0 % 4 = 0) :
    AC Tryz.prog 5 1 ([sV 0 xs.length]) [(0, ⟨(xs.map i64v), 3, false, 1⟩)] (sV 1 1) [(1, ⟨[sV 2 4], 39, true, 1⟩), (2, (pB (Sp.sqr (xs.getD 0 0 % 30 - 15) (xs.getD 1 0 % 30 - 15) (6 + xs.getD 2 0 % 10))))] := by
  have g0 := Sp.emod_bd (xs.getD 0 0) (n := 30) (by decide); have g1 := Sp.emod_bd (xs.getD 1 0) (n := 30) (by decide); have g2 := Sp.emod_bd (xs.getD 2 0) (n := 10) (by decide); have g4 := Sp.emod_bd (xs.getD 4 0) (n := (6 + xs.getD 2 0 % 10) - 2) (by omega); have g5 := Sp.emod_bd (xs.getD 4 0) (n := (6 + xs.getD 2 0 % 10) - 4) (by omega); have g6 := Sp.emod_bd (xs.getD 4 0) (n := 3) (by decide); have g7 := Sp.emod_bd (xs.getD 5 0) (n := 3 + xs.getD 4 0 % ((6 + xs.getD 2 0 % 10) - 4) - 2) (by omega)
  refine ac_in Tryz.func5 (fun w0 W pin => ?_)
  refine aw_p 3 (
    .a 1 1 <| .nil _ _) ?_
  refine aw_p 7 (
    .a 4 1 <| .nil _ _) ?_
  refine aw_p 15 (
    .a 1 2 <|
    .p (cF #[.tmp 14, .const (.int .i64 30)] #[58, 3] [.pointer (some ⟨1, 0, none⟩), .int .i64 30] 0 [1, 0] [(1, ⟨[sV 0 xs.length], 60, true, 1⟩), (0, ⟨(xs.map i64v), 3, false, 1⟩)] [(1, ⟨[.slice (some ⟨0, (min 1 xs.length), none⟩) (xs.length - 1) 0], 60, true, 1⟩)] (.int .i64 (xs.getD 0 0 % 30)) (nextz0 xs 30 (by decide) (by decide)) (.cons (.ptr _ _ (by decide)) (.cons rF .nil)) ⟨rfl, ⟨rfl, rfl, rfl, (.cons rS .nil)⟩, rfl, ⟨rfl, rfl, rfl, (.flats (flats_map (fun _ => rfl) _))⟩, trivial⟩ ⟨rfl, ⟨rfl, rfl, rfl, (.cons rS .nil)⟩, trivial⟩ rF) <|
    .p (does_i ((xs.getD 0 0 % 30) - 15) (wrap_i64 (by omega) (by omega)) .i64) <| .a 1 2 <|
    .p (cF #[.tmp 17, .const (.int .i64 30)] #[58, 3] [.pointer (some ⟨1, 0, none⟩), .int .i64 30] 0 [1, 0] [(1, ⟨[.slice (some ⟨0, (min 1 xs.length), none⟩) (xs.length - 1) 0], 60, true, 1⟩), (0, ⟨(xs.map i64v), 3, false, 1⟩)] [(1, ⟨[.slice (some ⟨0, (min 2 xs.length), none⟩) (xs.length - 2) 0], 60, true, 1⟩)] (.int .i64 (xs.getD 1 0 % 30)) (nextz xs 1 30 (by decide) (by decide)) (.cons (.ptr _ _ (by decide)) (.cons rF .nil)) ⟨rfl, ⟨rfl, rfl, rfl, (.cons rS .nil)⟩, rfl, ⟨rfl, rfl, rfl, (.flats (flats_map (fun _ => rfl) _))⟩, trivial⟩ ⟨rfl, ⟨rfl, rfl, rfl, (.cons rS .nil)⟩, trivial⟩ rF) <|
    .p (does_i ((xs.getD 1 0 % 30) - 15) (wrap_i64 (by omega) (by omega)) .i64) <| .a 1 2 <|
    .p (cF #[.tmp 20, .const (.int .i64 10)] #[58, 3] [.pointer (some ⟨1, 0, none⟩), .int .i64 10] 0 [1, 0] [(1, ⟨[.slice (some ⟨0, (min 2 xs.length), none⟩) (xs.length - 2) 0], 60, true, 1⟩), (0, ⟨(xs.map i64v), 3, false, 1⟩)] [(1, ⟨[.slice (some ⟨0, (min 3 xs.length), none⟩) (xs.length - 3) 0], 60, true, 1⟩)] (.int .i64 (xs.getD 2 0 % 10)) (nextz xs 2 10 (by decide) (by decide)) (.cons (.ptr _ _ (by decide)) (.cons rF .nil)) ⟨rfl, ⟨rfl, rfl, rfl, (.cons rS .nil)⟩, rfl, ⟨rfl, rfl, rfl, (.flats (flats_map (fun _ => rfl) _))⟩, trivial⟩ ⟨rfl, ⟨rfl, rfl, rfl, (.cons rS .nil)⟩, trivial⟩ rF) <|
    .p (does_i (6 + (xs.getD 2 0 % 10)) (wrap_i64 (by omega) (by omega)) .i64) <| .a 3 2 <| .nil _ _) ?_
  refine aw_p 31 (
    .a 1 2 <| .nil _ _) ?_
  refine aw_p 63 (
    .a 1 2 <| .nil _ _) ?_
  refine aw_p 127 (
    .a 4 2 <|
    .p (does_callB (x := .tmp 23) (ars := #[.tmp 24, .tmp 25, .tmp 26]) (ats := #[3, 3, 3]) (g := 24) (vs := [.int .i64 ((xs.getD 0 0 % 30) - 15), .int .i64 ((xs.getD 1 0 % 30) - 15), .int .i64 (6 + (xs.getD 2 0 % 10))]) (m := 0) (r := 1) (firsts := #[]) (caps := #[]) (args0 := [.int .i64 ((xs.getD 0 0 % 30) - 15), .int .i64 ((xs.getD 1 0 % 30) - 15), .int .i64 (6 + (xs.getD 2 0 % 10))]) (pre0 := []) (post0 := [(0, (pB (Sp.sqr ((xs.getD 0 0 % 30) - 15) ((xs.getD 1 0 % 30) - 15) (6 + (xs.getD 2 0 % 10)))))]) (pre := []) (post := [(2, (pB (Sp.sqr ((xs.getD 0 0 % 30) - 15) ((xs.getD 1 0 % 30) - 15) (6 + (xs.getD 2 0 % 10)))))]) (v0 := sV 0 4) (v := sV 2 4) [2] (by kernel_rfl) (by kernel_rfl) (by kernel_rfl) (by kernel_rfl) (asq1_ok ((xs.getD 0 0 % 30) - 15) ((xs.getD 1 0 % 30) - 15) (6 + (xs.getD 2 0 % 10)) (by omega) (by omega) (by omega) (by omega) (by omega) (by omega)) (.flats (by kernel_rfl)) trivial (by kernel_rfl) (by kernel_rfl) (by kernel_rfl) ⟨rfl, bP, trivial⟩ rS) <|
    .a 2 3 <| .nil _ _) ?_
  refine aw_sq 254 255 ?_
  refine aw_p 509 (
    .a 1 4 <|
    .p (cF #[.tmp 29, .const (.int .i64 4)] #[58, 3] [.pointer (some ⟨1, 0, none⟩), .int .i64 4] 0 [1, 0] [(1, ⟨[.slice (some ⟨0, (min 3 xs.length), none⟩) (xs.length - 3) 0], 60, true, 1⟩), (0, ⟨(xs.map i64v), 3, false, 1⟩)] [(1, ⟨[.slice (some ⟨0, (min 4 xs.length), none⟩) (xs.length - 4) 0], 60, true, 1⟩)] (.int .i64 (xs.getD 3 0 % 4)) (nextz xs 3 4 (by decide) (by decide)) (.cons (.ptr _ _ (by decide)) (.cons rF .nil)) ⟨rfl, ⟨rfl, rfl, rfl, (.cons rS .nil)⟩, rfl, ⟨rfl, rfl, rfl, (.flats (flats_map (fun _ => rfl) _))⟩, trivial⟩ ⟨rfl, ⟨rfl, rfl, rfl, (.cons rS .nil)⟩, trivial⟩ rF) <| .nil _ _) ?_
  refine aw_bl 0 1019 ?_
  refine aw_p 2039 (
    .p (does_b false ((show ((xs.getD 3 0 % 4) == 1) = false from (by rw [hs]; decide)))) <| .a 1 4 <| .nil _ _) ?_
  refine aw_fl 4079 ?_
  refine aw_p 8159 (
    .p (does_b false ((show ((xs.getD 3 0 % 4) == 2) = false from (by rw [hs]; decide)))) <| .a 1 4 <| .nil _ _) ?_
  refine aw_fl 16319 ?_
  refine aw_p 32639 (
    .p (does_b false ((show ((xs.getD 3 0 % 4) == 3) = false from (by rw [hs]; decide)))) <| .a 1 4 <| .nil _ _) ?_
  refine aw_fl 65279 ?_
  refine aw_sk ?_
  refine block_normal ?_
  refine then_normal ?_
  refine aw_p 511 (
    .a 2 4 <| .nil _ _) ?_
  refine aw_r [(1, 3)] [(2, sV 3 1)] [(0, ⟨(xs.map i64v), 3, false, 1⟩), (3, ⟨[sV 2 4], 39, true, 1⟩), (2, (pB (Sp.sqr ((xs.getD 0 0 % 30) - 15) ((xs.getD 1 0 % 30) - 15) (6 + (xs.getD 2 0 % 10)))))] [(2, sV 1 1)] [(0, ⟨(xs.map i64v), 3, false, 1⟩), (1, ⟨[sV 2 4], 39, true, 1⟩), (2, (pB (Sp.sqr ((xs.getD 0 0 % 30) - 15) ((xs.getD 1 0 % 30) - 15) (6 + (xs.getD 2 0 % 10)))))] ?_ ⟨rfl, (rK rfl), trivial⟩ ⟨rfl, ⟨rfl, rfl, rfl, (.flats (flats_map (fun _ => rfl) _))⟩, rfl, ⟨rfl, rfl, rfl, (.cons (rK rfl) .nil)⟩, rfl, ⟨rfl, rfl, rfl, (.flats (flats_pair _))⟩, trivial⟩
  refine aw_rt ?_
  exact en_ret [sV 1 1] (by kernel_rfl)
theorem marea_1 (xs : List Int) (hs : xs.getD 3 0 % 4 = 1) :
    AC Tryz.prog 5 1 ([sV 0 xs.length]) [(0, ⟨(xs.map i64v), 3, false, 1⟩)] (sV 1 2) [(1, ⟨[sV 2 4, sV 3 4], 39, true, 1⟩), (2, (pB (Sp.sqr (xs.getD 0 0 % 30 - 15) (xs.getD 1 0 % 30 - 15) (6 + xs.getD 2 0 % 10)))), (3, (pB (Sp.hol (xs.getD 0 0 % 30 - 15) (xs.getD 1 0 % 30 - 15) (1 + xs.getD 4 0 % ((6 + xs.getD 2 0 % 10) - 2)))))] := by
  have g0 := Sp.emod_bd (xs.getD 0 0) (n := 30) (by decide); have g1 := Sp.emod_bd (xs.getD 1 0) (n := 30) (by decide); have g2 := Sp.emod_bd (xs.getD 2 0) (n := 10) (by decide); have g4 := Sp.emod_bd (xs.getD 4 0) (n := (6 + xs.getD 2 0 % 10) - 2) (by omega); have g5 := Sp.emod_bd (xs.getD 4 0) (n := (6 + xs.getD 2 0 % 10) - 4) (by omega); have g6 := Sp.emod_bd (xs.getD 4 0) (n := 3) (by decide); have g7 := Sp.emod_bd (xs.getD 5 0) (n := 3 + xs.getD 4 0 % ((6 + xs.getD 2 0 % 10) - 4) - 2) (by omega)
  refine ac_in Tryz.func5 (fun w0 W pin => ?_)
  refine aw_p 3 (
    .a 1 1 <| .nil _ _) ?_
  refine aw_p 7 (
    .a 4 1 <| .nil _ _) ?_
  refine aw_p 15 (
    .a 1 2 <|
    .p (cF #[.tmp 14, .const (.int .i64 30)] #[58, 3] [.pointer (some ⟨1, 0, none⟩), .int .i64 30] 0 [1, 0] [(1, ⟨[sV 0 xs.length], 60, true, 1⟩), (0, ⟨(xs.map i64v), 3, false, 1⟩)] [(1, ⟨[.slice (some ⟨0, (min 1 xs.length), none⟩) (xs.length - 1) 0], 60, true, 1⟩)] (.int .i64 (xs.getD 0 0 % 30)) (nextz0 xs 30 (by decide) (by decide)) (.cons (.ptr _ _ (by decide)) (.cons rF .nil)) ⟨rfl, ⟨rfl, rfl, rfl, (.cons rS .nil)⟩, rfl, ⟨rfl, rfl, rfl, (.flats (flats_map (fun _ => rfl) _))⟩, trivial⟩ ⟨rfl, ⟨rfl, rfl, rfl, (.cons rS .nil)⟩, trivial⟩ rF) <|
    .p (does_i ((xs.getD 0 0 % 30) - 15) (wrap_i64 (by omega) (by omega)) .i64) <| .a 1 2 <|
    .p (cF #[.tmp 17, .const (.int .i64 30)] #[58, 3] [.pointer (some ⟨1, 0, none⟩), .int .i64 30] 0 [1, 0] [(1, ⟨[.slice (some ⟨0, (min 1 xs.length), none⟩) (xs.length - 1) 0], 60, true, 1⟩), (0, ⟨(xs.map i64v), 3, false, 1⟩)] [(1, ⟨[.slice (some ⟨0, (min 2 xs.length), none⟩) (xs.length - 2) 0], 60, true, 1⟩)] (.int .i64 (xs.getD 1 0 % 30)) (nextz xs 1 30 (by decide) (by decide)) (.cons (.ptr _ _ (by decide)) (.cons rF .nil)) ⟨rfl, ⟨rfl, rfl, rfl, (.cons rS .nil)⟩, rfl, ⟨rfl, rfl, rfl, (.flats (flats_map (fun _ => rfl) _))⟩, trivial⟩ ⟨rfl, ⟨rfl, rfl, rfl, (.cons rS .nil)⟩, trivial⟩ rF) <|
    .p (does_i ((xs.getD 1 0 % 30) - 15) (wrap_i64 (by omega) (by omega)) .i64) <| .a 1 2 <|
    .p (cF #[.tmp 20, .const (.int .i64 10)] #[58, 3] [.pointer (some ⟨1, 0, none⟩), .int .i64 10] 0 [1, 0] [(1, ⟨[.slice (some ⟨0, (min 2 xs.length), none⟩) (xs.length - 2) 0], 60, true, 1⟩), (0, ⟨(xs.map i64v), 3, false, 1⟩)] [(1, ⟨[.slice (some ⟨0, (min 3 xs.length), none⟩) (xs.length - 3) 0], 60, true, 1⟩)] (.int .i64 (xs.getD 2 0 % 10)) (nextz xs 2 10 (by decide) (by decide)) (.cons (.ptr _ _ (by decide)) (.cons rF .nil)) ⟨rfl, ⟨rfl, rfl, rfl, (.cons rS .nil)⟩, rfl, ⟨rfl, rfl, rfl, (.flats (flats_map (fun _ => rfl) _))⟩, trivial⟩ ⟨rfl, ⟨rfl, rfl, rfl, (.cons rS .nil)⟩, trivial⟩ rF) <|
    .p (does_i (6 + (xs.getD 2 0 % 10)) (wrap_i64 (by omega) (by omega)) .i64) <| .a 3 2 <| .nil _ _) ?_
  refine aw_p 31 (
    .a 1 2 <| .nil _ _) ?_
  refine aw_p 63 (
    .a 1 2 <| .nil _ _) ?_
  refine aw_p 127 (
    .a 4 2 <|
    .p (does_callB (x := .tmp 23) (ars := #[.tmp 24, .tmp 25, .tmp 26]) (ats := #[3, 3, 3]) (g := 24) (vs := [.int .i64 ((xs.getD 0 0 % 30) - 15), .int .i64 ((xs.getD 1 0 % 30) - 15), .int .i64 (6 + (xs.getD 2 0 % 10))]) (m := 0) (r := 1) (firsts := #[]) (caps := #[]) (args0 := [.int .i64 ((xs.getD 0 0 % 30) - 15), .int .i64 ((xs.getD 1 0 % 30) - 15), .int .i64 (6 + (xs.getD 2 0 % 10))]) (pre0 := []) (post0 := [(0, (pB (Sp.sqr ((xs.getD 0 0 % 30) - 15) ((xs.getD 1 0 % 30) - 15) (6 + (xs.getD 2 0 % 10)))))]) (pre := []) (post := [(2, (pB (Sp.sqr ((xs.getD 0 0 % 30) - 15) ((xs.getD 1 0 % 30) - 15) (6 + (xs.getD 2 0 % 10)))))]) (v0 := sV 0 4) (v := sV 2 4) [2] (by kernel_rfl) (by kernel_rfl) (by kernel_rfl) (by kernel_rfl) (asq1_ok ((xs.getD 0 0 % 30) - 15) ((xs.getD 1 0 % 30) - 15) (6 + (xs.getD 2 0 % 10)) (by omega) (by omega) (by omega) (by omega) (by omega) (by omega)) (.flats (by kernel_rfl)) trivial (by kernel_rfl) (by kernel_rfl) (by kernel_rfl) ⟨rfl, bP, trivial⟩ rS) <|
    .a 2 3 <| .nil _ _) ?_
  refine aw_sq 254 255 ?_
  refine aw_p 509 (
    .a 1 4 <|
    .p (cF #[.tmp 29, .const (.int .i64 4)] #[58, 3] [.pointer (some ⟨1, 0, none⟩), .int .i64 4] 0 [1, 0] [(1, ⟨[.slice (some ⟨0, (min 3 xs.length), none⟩) (xs.length - 3) 0], 60, true, 1⟩), (0, ⟨(xs.map i64v), 3, false, 1⟩)] [(1, ⟨[.slice (some ⟨0, (min 4 xs.length), none⟩) (xs.length - 4) 0], 60, true, 1⟩)] (.int .i64 (xs.getD 3 0 % 4)) (nextz xs 3 4 (by decide) (by decide)) (.cons (.ptr _ _ (by decide)) (.cons rF .nil)) ⟨rfl, ⟨rfl, rfl, rfl, (.cons rS .nil)⟩, rfl, ⟨rfl, rfl, rfl, (.flats (flats_map (fun _ => rfl) _))⟩, trivial⟩ ⟨rfl, ⟨rfl, rfl, rfl, (.cons rS .nil)⟩, trivial⟩ rF) <| .nil _ _) ?_
  refine aw_bl 0 1019 ?_
  refine aw_p 2039 (
    .p (does_b true ((show ((xs.getD 3 0 % 4) == 1) = true from (by rw [hs]; decide)))) <| .a 1 4 <| .nil _ _) ?_
  refine aw_tr 4078 ?_
  refine aw_p 8157 (
    .a 6 4 <| .p (does_i ((6 + (xs.getD 2 0 % 10)) - 2) (wrap_i64 (by omega) (by omega)) .i64) <|
    .p (cF #[.tmp 37, .tmp 39] #[58, 3] [.pointer (some ⟨1, 0, none⟩), .int .i64 ((6 + (xs.getD 2 0 % 10)) - 2)] 0 [1, 0] [(1, ⟨[.slice (some ⟨0, (min 4 xs.length), none⟩) (xs.length - 4) 0], 60, true, 1⟩), (0, ⟨(xs.map i64v), 3, false, 1⟩)] [(1, ⟨[.slice (some ⟨0, (min 5 xs.length), none⟩) (xs.length - 5) 0], 60, true, 1⟩)] (.int .i64 (xs.getD 4 0 % ((6 + (xs.getD 2 0 % 10)) - 2))) (nextz xs 4 ((6 + (xs.getD 2 0 % 10)) - 2) (by omega) (by omega)) (.cons (.ptr _ _ (by decide)) (.cons rF .nil)) ⟨rfl, ⟨rfl, rfl, rfl, (.cons rS .nil)⟩, rfl, ⟨rfl, rfl, rfl, (.flats (flats_map (fun _ => rfl) _))⟩, trivial⟩ ⟨rfl, ⟨rfl, rfl, rfl, (.cons rS .nil)⟩, trivial⟩ rF) <|
    .p (does_i (1 + (xs.getD 4 0 % ((6 + (xs.getD 2 0 % 10)) - 2))) (wrap_i64 (by omega) (by omega)) .i64) <|
    .p (does_callB (x := .tmp 34) (ars := #[.tmp 35, .tmp 36, .tmp 41]) (ats := #[3, 3, 3]) (g := 25) (vs := [.int .i64 ((xs.getD 0 0 % 30) - 15), .int .i64 ((xs.getD 1 0 % 30) - 15), .int .i64 (1 + (xs.getD 4 0 % ((6 + (xs.getD 2 0 % 10)) - 2)))]) (m := 0) (r := 1) (firsts := #[]) (caps := #[]) (args0 := [.int .i64 ((xs.getD 0 0 % 30) - 15), .int .i64 ((xs.getD 1 0 % 30) - 15), .int .i64 (1 + (xs.getD 4 0 % ((6 + (xs.getD 2 0 % 10)) - 2)))]) (pre0 := []) (post0 := [(0, (pB (Sp.hol ((xs.getD 0 0 % 30) - 15) ((xs.getD 1 0 % 30) - 15) (1 + (xs.getD 4 0 % ((6 + (xs.getD 2 0 % 10)) - 2))))))]) (pre := []) (post := [(4, (pB (Sp.hol ((xs.getD 0 0 % 30) - 15) ((xs.getD 1 0 % 30) - 15) (1 + (xs.getD 4 0 % ((6 + (xs.getD 2 0 % 10)) - 2))))))]) (v0 := sV 0 4) (v := sV 4 4) [4] (by kernel_rfl) (by kernel_rfl) (by kernel_rfl) (by kernel_rfl) (asq2_ok ((xs.getD 0 0 % 30) - 15) ((xs.getD 1 0 % 30) - 15) (1 + (xs.getD 4 0 % ((6 + (xs.getD 2 0 % 10)) - 2))) (by omega) (by omega) (by omega) (by omega) (by omega) (by omega)) (.flats (by kernel_rfl)) trivial (by kernel_rfl) (by kernel_rfl) (by kernel_rfl) ⟨rfl, bP, trivial⟩ rS) <|
    .a 1 5 <| .p (does_ap 6) <| .a 1 7 <| .nil _ _) ?_
  refine aw_r [(1, 6), (3, 4)] [(2, sV 6 2)] [(0, ⟨(xs.map i64v), 3, false, 1⟩), (6, ⟨[sV 2 4, sV 4 4], 39, true, 1⟩), (2, (pB (Sp.sqr ((xs.getD 0 0 % 30) - 15) ((xs.getD 1 0 % 30) - 15) (6 + (xs.getD 2 0 % 10))))), (4, (pB (Sp.hol ((xs.getD 0 0 % 30) - 15) ((xs.getD 1 0 % 30) - 15) (1 + (xs.getD 4 0 % ((6 + (xs.getD 2 0 % 10)) - 2))))))] [(2, sV 1 2)] [(0, ⟨(xs.map i64v), 3, false, 1⟩), (1, ⟨[sV 2 4, sV 3 4], 39, true, 1⟩), (2, (pB (Sp.sqr ((xs.getD 0 0 % 30) - 15) ((xs.getD 1 0 % 30) - 15) (6 + (xs.getD 2 0 % 10))))), (3, (pB (Sp.hol ((xs.getD 0 0 % 30) - 15) ((xs.getD 1 0 % 30) - 15) (1 + (xs.getD 4 0 % ((6 + (xs.getD 2 0 % 10)) - 2))))))] ?_ ⟨rfl, (rK rfl), trivial⟩ ⟨rfl, ⟨rfl, rfl, rfl, (.flats (flats_map (fun _ => rfl) _))⟩, rfl, ⟨rfl, rfl, rfl, (.cons (rK rfl) (.cons (rK rfl) .nil))⟩, rfl, ⟨rfl, rfl, rfl, (.flats (flats_pair _))⟩, rfl, ⟨rfl, rfl, rfl, (.flats (flats_pair _))⟩, trivial⟩
  refine aw_rt ?_
  refine block_ret ?_
  refine then_ret ?_
  exact en_ret [sV 1 2] (by kernel_rfl)
theorem marea_2 (xs : List Int) (hs : xs.getD 3 0 % 4 = 2) :
    AC Tryz.prog 5 1 ([sV 0 xs.length]) [(0, ⟨(xs.map i64v), 3, false, 1⟩)] (sV 1 3) [(1, ⟨[sV 2 4, sV 3 4, sV 4 4], 39, true, 1⟩), (2, (pB (Sp.sqr (xs.getD 0 0 % 30 - 15) (xs.getD 1 0 % 30 - 15) (6 + xs.getD 2 0 % 10)))), (3, (pB (Sp.hol (xs.getD 0 0 % 30 - 15) (xs.getD 1 0 % 30 - 15) (3 + xs.getD 4 0 % ((6 + xs.getD 2 0 % 10) - 4))))), (4, (pB (Sp.sqr (xs.getD 0 0 % 30 - 15) (xs.getD 1 0 % 30 - 15) (1 + xs.getD 5 0 % ((3 + xs.getD 4 0 % ((6 + xs.getD 2 0 % 10) - 4)) - 2)))))] := by
  have g0 := Sp.emod_bd (xs.getD 0 0) (n := 30) (by decide); have g1 := Sp.emod_bd (xs.getD 1 0) (n := 30) (by decide); have g2 := Sp.emod_bd (xs.getD 2 0) (n := 10) (by decide); have g4 := Sp.emod_bd (xs.getD 4 0) (n := (6 + xs.getD 2 0 % 10) - 2) (by omega); have g5 := Sp.emod_bd (xs.getD 4 0) (n := (6 + xs.getD 2 0 % 10) - 4) (by omega); have g6 := Sp.emod_bd (xs.getD 4 0) (n := 3) (by decide); have g7 := Sp.emod_bd (xs.getD 5 0) (n := 3 + xs.getD 4 0 % ((6 + xs.getD 2 0 % 10) - 4) - 2) (by omega)
  refine ac_in Tryz.func5 (fun w0 W pin => ?_)
  refine aw_p 3 (
    .a 1 1 <| .nil _ _) ?_
  refine aw_p 7 (
    .a 4 1 <| .nil _ _) ?_
  refine aw_p 15 (
    .a 1 2 <|
    .p (cF #[.tmp 14, .const (.int .i64 30)] #[58, 3] [.pointer (some ⟨1, 0, none⟩), .int .i64 30] 0 [1, 0] [(1, ⟨[sV 0 xs.length], 60, true, 1⟩), (0, ⟨(xs.map i64v), 3, false, 1⟩)] [(1, ⟨[.slice (some ⟨0, (min 1 xs.length), none⟩) (xs.length - 1) 0], 60, true, 1⟩)] (.int .i64 (xs.getD 0 0 % 30)) (nextz0 xs 30 (by decide) (by decide)) (.cons (.ptr _ _ (by decide)) (.cons rF .nil)) ⟨rfl, ⟨rfl, rfl, rfl, (.cons rS .nil)⟩, rfl, ⟨rfl, rfl, rfl, (.flats (flats_map (fun _ => rfl) _))⟩, trivial⟩ ⟨rfl, ⟨rfl, rfl, rfl, (.cons rS .nil)⟩, trivial⟩ rF) <|
    .p (does_i ((xs.getD 0 0 % 30) - 15) (wrap_i64 (by omega) (by omega)) .i64) <| .a 1 2 <|
    .p (cF #[.tmp 17, .const (.int .i64 30)] #[58, 3] [.pointer (some ⟨1, 0, none⟩), .int .i64 30] 0 [1, 0] [(1, ⟨[.slice (some ⟨0, (min 1 xs.length), none⟩) (xs.length - 1) 0], 60, true, 1⟩), (0, ⟨(xs.map i64v), 3, false, 1⟩)] [(1, ⟨[.slice (some ⟨0, (min 2 xs.length), none⟩) (xs.length - 2) 0], 60, true, 1⟩)] (.int .i64 (xs.getD 1 0 % 30)) (nextz xs 1 30 (by decide) (by decide)) (.cons (.ptr _ _ (by decide)) (.cons rF .nil)) ⟨rfl, ⟨rfl, rfl, rfl, (.cons rS .nil)⟩, rfl, ⟨rfl, rfl, rfl, (.flats (flats_map (fun _ => rfl) _))⟩, trivial⟩ ⟨rfl, ⟨rfl, rfl, rfl, (.cons rS .nil)⟩, trivial⟩ rF) <|
    .p (does_i ((xs.getD 1 0 % 30) - 15) (wrap_i64 (by omega) (by omega)) .i64) <| .a 1 2 <|
    .p (cF #[.tmp 20, .const (.int .i64 10)] #[58, 3] [.pointer (some ⟨1, 0, none⟩), .int .i64 10] 0 [1, 0] [(1, ⟨[.slice (some ⟨0, (min 2 xs.length), none⟩) (xs.length - 2) 0], 60, true, 1⟩), (0, ⟨(xs.map i64v), 3, false, 1⟩)] [(1, ⟨[.slice (some ⟨0, (min 3 xs.length), none⟩) (xs.length - 3) 0], 60, true, 1⟩)] (.int .i64 (xs.getD 2 0 % 10)) (nextz xs 2 10 (by decide) (by decide)) (.cons (.ptr _ _ (by decide)) (.cons rF .nil)) ⟨rfl, ⟨rfl, rfl, rfl, (.cons rS .nil)⟩, rfl, ⟨rfl, rfl, rfl, (.flats (flats_map (fun _ => rfl) _))⟩, trivial⟩ ⟨rfl, ⟨rfl, rfl, rfl, (.cons rS .nil)⟩, trivial⟩ rF) <|
    .p (does_i (6 + (xs.getD 2 0 % 10)) (wrap_i64 (by omega) (by omega)) .i64) <| .a 3 2 <| .nil _ _) ?_
  refine aw_p 31 (
    .a 1 2 <| .nil _ _) ?_
  refine aw_p 63 (
    .a 1 2 <| .nil _ _) ?_
  refine aw_p 127 (
    .a 4 2 <|
    .p (does_callB (x := .tmp 23) (ars := #[.tmp 24, .tmp 25, .tmp 26]) (ats := #[3, 3, 3]) (g := 24) (vs := [.int .i64 ((xs.getD 0 0 % 30) - 15), .int .i64 ((xs.getD 1 0 % 30) - 15), .int .i64 (6 + (xs.getD 2 0 % 10))]) (m := 0) (r := 1) (firsts := #[]) (caps := #[]) (args0 := [.int .i64 ((xs.getD 0 0 % 30) - 15), .int .i64 ((xs.getD 1 0 % 30) - 15), .int .i64 (6 + (xs.getD 2 0 % 10))]) (pre0 := []) (post0 := [(0, (pB (Sp.sqr ((xs.getD 0 0 % 30) - 15) ((xs.getD 1 0 % 30) - 15) (6 + (xs.getD 2 0 % 10)))))]) (pre := []) (post := [(2, (pB (Sp.sqr ((xs.getD 0 0 % 30) - 15) ((xs.getD 1 0 % 30) - 15) (6 + (xs.getD 2 0 % 10)))))]) (v0 := sV 0 4) (v := sV 2 4) [2] (by kernel_rfl) (by kernel_rfl) (by kernel_rfl) (by kernel_rfl) (asq1_ok ((xs.getD 0 0 % 30) - 15) ((xs.getD 1 0 % 30) - 15) (6 + (xs.getD 2 0 % 10)) (by omega) (by omega) (by omega) (by omega) (by omega) (by omega)) (.flats (by kernel_rfl)) trivial (by kernel_rfl) (by kernel_rfl) (by kernel_rfl) ⟨rfl, bP, trivial⟩ rS) <|
    .a 2 3 <| .nil _ _) ?_
  refine aw_sq 254 255 ?_
  refine aw_p 509 (
    .a 1 4 <|
    .p (cF #[.tmp 29, .const (.int .i64 4)] #[58, 3] [.pointer (some ⟨1, 0, none⟩), .int .i64 4] 0 [1, 0] [(1, ⟨[.slice (some ⟨0, (min 3 xs.length), none⟩) (xs.length - 3) 0], 60, true, 1⟩), (0, ⟨(xs.map i64v), 3, false, 1⟩)] [(1, ⟨[.slice (some ⟨0, (min 4 xs.length), none⟩) (xs.length - 4) 0], 60, true, 1⟩)] (.int .i64 (xs.getD 3 0 % 4)) (nextz xs 3 4 (by decide) (by decide)) (.cons (.ptr _ _ (by decide)) (.cons rF .nil)) ⟨rfl, ⟨rfl, rfl, rfl, (.cons rS .nil)⟩, rfl, ⟨rfl, rfl, rfl, (.flats (flats_map (fun _ => rfl) _))⟩, trivial⟩ ⟨rfl, ⟨rfl, rfl, rfl, (.cons rS .nil)⟩, trivial⟩ rF) <| .nil _ _) ?_
  refine aw_bl 0 1019 ?_
  refine aw_p 2039 (
    .p (does_b false ((show ((xs.getD 3 0 % 4) == 1) = false from (by rw [hs]; decide)))) <| .a 1 4 <| .nil _ _) ?_
  refine aw_fl 4079 ?_
  refine aw_p 8159 (
    .p (does_b true ((show ((xs.getD 3 0 % 4) == 2) = true from (by rw [hs]; decide)))) <| .a 1 4 <| .nil _ _) ?_
  refine aw_tr 16318 ?_
  refine aw_p 32637 (
    .a 2 4 <| .p (does_i ((6 + (xs.getD 2 0 % 10)) - 4) (wrap_i64 (by omega) (by omega)) .i64) <|
    .p (cF #[.tmp 47, .tmp 49] #[58, 3] [.pointer (some ⟨1, 0, none⟩), .int .i64 ((6 + (xs.getD 2 0 % 10)) - 4)] 0 [1, 0] [(1, ⟨[.slice (some ⟨0, (min 4 xs.length), none⟩) (xs.length - 4) 0], 60, true, 1⟩), (0, ⟨(xs.map i64v), 3, false, 1⟩)] [(1, ⟨[.slice (some ⟨0, (min 5 xs.length), none⟩) (xs.length - 5) 0], 60, true, 1⟩)] (.int .i64 (xs.getD 4 0 % ((6 + (xs.getD 2 0 % 10)) - 4))) (nextz xs 4 ((6 + (xs.getD 2 0 % 10)) - 4) (by omega) (by omega)) (.cons (.ptr _ _ (by decide)) (.cons rF .nil)) ⟨rfl, ⟨rfl, rfl, rfl, (.cons rS .nil)⟩, rfl, ⟨rfl, rfl, rfl, (.flats (flats_map (fun _ => rfl) _))⟩, trivial⟩ ⟨rfl, ⟨rfl, rfl, rfl, (.cons rS .nil)⟩, trivial⟩ rF) <|
    .p (does_i (3 + (xs.getD 4 0 % ((6 + (xs.getD 2 0 % 10)) - 4))) (wrap_i64 (by omega) (by omega)) .i64) <| .a 1 4 <| .nil _ _) ?_
  refine aw_p 65275 (
    .a 5 4 <|
    .p (does_callB (x := .tmp 53) (ars := #[.tmp 54, .tmp 55, .tmp 56]) (ats := #[3, 3, 3]) (g := 25) (vs := [.int .i64 ((xs.getD 0 0 % 30) - 15), .int .i64 ((xs.getD 1 0 % 30) - 15), .int .i64 (3 + (xs.getD 4 0 % ((6 + (xs.getD 2 0 % 10)) - 4)))]) (m := 0) (r := 1) (firsts := #[]) (caps := #[]) (args0 := [.int .i64 ((xs.getD 0 0 % 30) - 15), .int .i64 ((xs.getD 1 0 % 30) - 15), .int .i64 (3 + (xs.getD 4 0 % ((6 + (xs.getD 2 0 % 10)) - 4)))]) (pre0 := []) (post0 := [(0, (pB (Sp.hol ((xs.getD 0 0 % 30) - 15) ((xs.getD 1 0 % 30) - 15) (3 + (xs.getD 4 0 % ((6 + (xs.getD 2 0 % 10)) - 4))))))]) (pre := []) (post := [(4, (pB (Sp.hol ((xs.getD 0 0 % 30) - 15) ((xs.getD 1 0 % 30) - 15) (3 + (xs.getD 4 0 % ((6 + (xs.getD 2 0 % 10)) - 4))))))]) (v0 := sV 0 4) (v := sV 4 4) [4] (by kernel_rfl) (by kernel_rfl) (by kernel_rfl) (by kernel_rfl) (asq2_ok ((xs.getD 0 0 % 30) - 15) ((xs.getD 1 0 % 30) - 15) (3 + (xs.getD 4 0 % ((6 + (xs.getD 2 0 % 10)) - 4))) (by omega) (by omega) (by omega) (by omega) (by omega) (by omega)) (.flats (by kernel_rfl)) trivial (by kernel_rfl) (by kernel_rfl) (by kernel_rfl) ⟨rfl, bP, trivial⟩ rS) <|
    .a 5 5 <| .p (does_i ((3 + (xs.getD 4 0 % ((6 + (xs.getD 2 0 % 10)) - 4))) - 2) (wrap_i64 (by omega) (by omega)) .i64) <|
    .p (cF #[.tmp 61, .tmp 63] #[58, 3] [.pointer (some ⟨1, 0, none⟩), .int .i64 ((3 + (xs.getD 4 0 % ((6 + (xs.getD 2 0 % 10)) - 4))) - 2)] 0 [1, 0] [(1, ⟨[.slice (some ⟨0, (min 5 xs.length), none⟩) (xs.length - 5) 0], 60, true, 1⟩), (0, ⟨(xs.map i64v), 3, false, 1⟩)] [(1, ⟨[.slice (some ⟨0, (min 6 xs.length), none⟩) (xs.length - 6) 0], 60, true, 1⟩)] (.int .i64 (xs.getD 5 0 % ((3 + (xs.getD 4 0 % ((6 + (xs.getD 2 0 % 10)) - 4))) - 2))) (nextz xs 5 ((3 + (xs.getD 4 0 % ((6 + (xs.getD 2 0 % 10)) - 4))) - 2) (by omega) (by omega)) (.cons (.ptr _ _ (by decide)) (.cons rF .nil)) ⟨rfl, ⟨rfl, rfl, rfl, (.cons rS .nil)⟩, rfl, ⟨rfl, rfl, rfl, (.flats (flats_map (fun _ => rfl) _))⟩, trivial⟩ ⟨rfl, ⟨rfl, rfl, rfl, (.cons rS .nil)⟩, trivial⟩ rF) <|
    .p (does_i (1 + (xs.getD 5 0 % ((3 + (xs.getD 4 0 % ((6 + (xs.getD 2 0 % 10)) - 4))) - 2))) (wrap_i64 (by omega) (by omega)) .i64) <|
    .p (does_callB (x := .tmp 58) (ars := #[.tmp 59, .tmp 60, .tmp 65]) (ats := #[3, 3, 3]) (g := 24) (vs := [.int .i64 ((xs.getD 0 0 % 30) - 15), .int .i64 ((xs.getD 1 0 % 30) - 15), .int .i64 (1 + (xs.getD 5 0 % ((3 + (xs.getD 4 0 % ((6 + (xs.getD 2 0 % 10)) - 4))) - 2)))]) (m := 0) (r := 1) (firsts := #[]) (caps := #[]) (args0 := [.int .i64 ((xs.getD 0 0 % 30) - 15), .int .i64 ((xs.getD 1 0 % 30) - 15), .int .i64 (1 + (xs.getD 5 0 % ((3 + (xs.getD 4 0 % ((6 + (xs.getD 2 0 % 10)) - 4))) - 2)))]) (pre0 := []) (post0 := [(0, (pB (Sp.sqr ((xs.getD 0 0 % 30) - 15) ((xs.getD 1 0 % 30) - 15) (1 + (xs.getD 5 0 % ((3 + (xs.getD 4 0 % ((6 + (xs.getD 2 0 % 10)) - 4))) - 2))))))]) (pre := []) (post := [(5, (pB (Sp.sqr ((xs.getD 0 0 % 30) - 15) ((xs.getD 1 0 % 30) - 15) (1 + (xs.getD 5 0 % ((3 + (xs.getD 4 0 % ((6 + (xs.getD 2 0 % 10)) - 4))) - 2))))))]) (v0 := sV 0 4) (v := sV 5 4) [5] (by kernel_rfl) (by kernel_rfl) (by kernel_rfl) (by kernel_rfl) (asq1_ok ((xs.getD 0 0 % 30) - 15) ((xs.getD 1 0 % 30) - 15) (1 + (xs.getD 5 0 % ((3 + (xs.getD 4 0 % ((6 + (xs.getD 2 0 % 10)) - 4))) - 2))) (by omega) (by omega) (by omega) (by omega) (by omega) (by omega)) (.flats (by kernel_rfl)) trivial (by kernel_rfl) (by kernel_rfl) (by kernel_rfl) ⟨rfl, bP, trivial⟩ rS) <|
    .a 1 6 <| .p (does_ap 7) <| .a 1 8 <| .nil _ _) ?_
  refine aw_r [(1, 7), (3, 4), (4, 5)] [(2, sV 7 3)] [(0, ⟨(xs.map i64v), 3, false, 1⟩), (7, ⟨[sV 2 4, sV 4 4, sV 5 4], 39, true, 1⟩), (2, (pB (Sp.sqr ((xs.getD 0 0 % 30) - 15) ((xs.getD 1 0 % 30) - 15) (6 + (xs.getD 2 0 % 10))))), (4, (pB (Sp.hol ((xs.getD 0 0 % 30) - 15) ((xs.getD 1 0 % 30) - 15) (3 + (xs.getD 4 0 % ((6 + (xs.getD 2 0 % 10)) - 4)))))), (5, (pB (Sp.sqr ((xs.getD 0 0 % 30) - 15) ((xs.getD 1 0 % 30) - 15) (1 + (xs.getD 5 0 % ((3 + (xs.getD 4 0 % ((6 + (xs.getD 2 0 % 10)) - 4))) - 2))))))] [(2, sV 1 3)] [(0, ⟨(xs.map i64v), 3, false, 1⟩), (1, ⟨[sV 2 4, sV 3 4, sV 4 4], 39, true, 1⟩), (2, (pB (Sp.sqr ((xs.getD 0 0 % 30) - 15) ((xs.getD 1 0 % 30) - 15) (6 + (xs.getD 2 0 % 10))))), (3, (pB (Sp.hol ((xs.getD 0 0 % 30) - 15) ((xs.getD 1 0 % 30) - 15) (3 + (xs.getD 4 0 % ((6 + (xs.getD 2 0 % 10)) - 4)))))), (4, (pB (Sp.sqr ((xs.getD 0 0 % 30) - 15) ((xs.getD 1 0 % 30) - 15) (1 + (xs.getD 5 0 % ((3 + (xs.getD 4 0 % ((6 + (xs.getD 2 0 % 10)) - 4))) - 2))))))] ?_ ⟨rfl, (rK rfl), trivial⟩ ⟨rfl, ⟨rfl, rfl, rfl, (.flats (flats_map (fun _ => rfl) _))⟩, rfl, ⟨rfl, rfl, rfl, (.cons (rK rfl) (.cons (rK rfl) (.cons (rK rfl) .nil)))⟩, rfl, ⟨rfl, rfl, rfl, (.flats (flats_pair _))⟩, rfl, ⟨rfl, rfl, rfl, (.flats (flats_pair _))⟩, rfl, ⟨rfl, rfl, rfl, (.flats (flats_pair _))⟩, trivial⟩
  refine aw_rt ?_
  refine block_ret ?_
  refine then_ret ?_
  exact en_ret [sV 1 3] (by kernel_rfl)
theorem marea_3 (xs : List Int) (hs : xs.getD 3 0 % 4 = 3) :
    AC Tryz.prog 5 1 ([sV 0 xs.length]) [(0, ⟨(xs.map i64v), 3, false, 1⟩)] (sV 1 2) [(1, ⟨[sV 2 4, sV 3 4], 39, true, 1⟩), (2, (pB (Sp.sqr (xs.getD 0 0 % 30 - 15) (xs.getD 1 0 % 30 - 15) (6 + xs.getD 2 0 % 10)))), (3, (pB (Sp.sqr ((xs.getD 0 0 % 30 - 15) + (6 + xs.getD 2 0 % 10) + 3 + xs.getD 4 0 % 3) (xs.getD 1 0 % 30 - 15) (2))))] := by
  have g0 := Sp.emod_bd (xs.getD 0 0) (n := 30) (by decide); have g1 := Sp.emod_bd (xs.getD 1 0) (n := 30) (by decide); have g2 := Sp.emod_bd (xs.getD 2 0) (n := 10) (by decide); have g4 := Sp.emod_bd (xs.getD 4 0) (n := (6 + xs.getD 2 0 % 10) - 2) (by omega); have g5 := Sp.emod_bd (xs.getD 4 0) (n := (6 + xs.getD 2 0 % 10) - 4) (by omega); have g6 := Sp.emod_bd (xs.getD 4 0) (n := 3) (by decide); have g7 := Sp.emod_bd (xs.getD 5 0) (n := 3 + xs.getD 4 0 % ((6 + xs.getD 2 0 % 10) - 4) - 2) (by omega)
  refine ac_in Tryz.func5 (fun w0 W pin => ?_)
  refine aw_p 3 (
    .a 1 1 <| .nil _ _) ?_
  refine aw_p 7 (
    .a 4 1 <| .nil _ _) ?_
  refine aw_p 15 (
    .a 1 2 <|
    .p (cF #[.tmp 14, .const (.int .i64 30)] #[58, 3] [.pointer (some ⟨1, 0, none⟩), .int .i64 30] 0 [1, 0] [(1, ⟨[sV 0 xs.length], 60, true, 1⟩), (0, ⟨(xs.map i64v), 3, false, 1⟩)] [(1, ⟨[.slice (some ⟨0, (min 1 xs.length), none⟩) (xs.length - 1) 0], 60, true, 1⟩)] (.int .i64 (xs.getD 0 0 % 30)) (nextz0 xs 30 (by decide) (by decide)) (.cons (.ptr _ _ (by decide)) (.cons rF .nil)) ⟨rfl, ⟨rfl, rfl, rfl, (.cons rS .nil)⟩, rfl, ⟨rfl, rfl, rfl, (.flats (flats_map (fun _ => rfl) _))⟩, trivial⟩ ⟨rfl, ⟨rfl, rfl, rfl, (.cons rS .nil)⟩, trivial⟩ rF) <|
    .p (does_i ((xs.getD 0 0 % 30) - 15) (wrap_i64 (by omega) (by omega)) .i64) <| .a 1 2 <|
    .p (cF #[.tmp 17, .const (.int .i64 30)] #[58, 3] [.pointer (some ⟨1, 0, none⟩), .int .i64 30] 0 [1, 0] [(1, ⟨[.slice (some ⟨0, (min 1 xs.length), none⟩) (xs.length - 1) 0], 60, true, 1⟩), (0, ⟨(xs.map i64v), 3, false, 1⟩)] [(1, ⟨[.slice (some ⟨0, (min 2 xs.length), none⟩) (xs.length - 2) 0], 60, true, 1⟩)] (.int .i64 (xs.getD 1 0 % 30)) (nextz xs 1 30 (by decide) (by decide)) (.cons (.ptr _ _ (by decide)) (.cons rF .nil)) ⟨rfl, ⟨rfl, rfl, rfl, (.cons rS .nil)⟩, rfl, ⟨rfl, rfl, rfl, (.flats (flats_map (fun _ => rfl) _))⟩, trivial⟩ ⟨rfl, ⟨rfl, rfl, rfl, (.cons rS .nil)⟩, trivial⟩ rF) <|
    .p (does_i ((xs.getD 1 0 % 30) - 15) (wrap_i64 (by omega) (by omega)) .i64) <| .a 1 2 <|
    .p (cF #[.tmp 20, .const (.int .i64 10)] #[58, 3] [.pointer (some ⟨1, 0, none⟩), .int .i64 10] 0 [1, 0] [(1, ⟨[.slice (some ⟨0, (min 2 xs.length), none⟩) (xs.length - 2) 0], 60, true, 1⟩), (0, ⟨(xs.map i64v), 3, false, 1⟩)] [(1, ⟨[.slice (some ⟨0, (min 3 xs.length), none⟩) (xs.length - 3) 0], 60, true, 1⟩)] (.int .i64 (xs.getD 2 0 % 10)) (nextz xs 2 10 (by decide) (by decide)) (.cons (.ptr _ _ (by decide)) (.cons rF .nil)) ⟨rfl, ⟨rfl, rfl, rfl, (.cons rS .nil)⟩, rfl, ⟨rfl, rfl, rfl, (.flats (flats_map (fun _ => rfl) _))⟩, trivial⟩ ⟨rfl, ⟨rfl, rfl, rfl, (.cons rS .nil)⟩, trivial⟩ rF) <|
    .p (does_i (6 + (xs.getD 2 0 % 10)) (wrap_i64 (by omega) (by omega)) .i64) <| .a 3 2 <| .nil _ _) ?_
  refine aw_p 31 (
    .a 1 2 <| .nil _ _) ?_
  refine aw_p 63 (
    .a 1 2 <| .nil _ _) ?_
  refine aw_p 127 (
    .a 4 2 <|
    .p (does_callB (x := .tmp 23) (ars := #[.tmp 24, .tmp 25, .tmp 26]) (ats := #[3, 3, 3]) (g := 24) (vs := [.int .i64 ((xs.getD 0 0 % 30) - 15), .int .i64 ((xs.getD 1 0 % 30) - 15), .int .i64 (6 + (xs.getD 2 0 % 10))]) (m := 0) (r := 1) (firsts := #[]) (caps := #[]) (args0 := [.int .i64 ((xs.getD 0 0 % 30) - 15), .int .i64 ((xs.getD 1 0 % 30) - 15), .int .i64 (6 + (xs.getD 2 0 % 10))]) (pre0 := []) (post0 := [(0, (pB (Sp.sqr ((xs.getD 0 0 % 30) - 15) ((xs.getD 1 0 % 30) - 15) (6 + (xs.getD 2 0 % 10)))))]) (pre := []) (post := [(2, (pB (Sp.sqr ((xs.getD 0 0 % 30) - 15) ((xs.getD 1 0 % 30) - 15) (6 + (xs.getD 2 0 % 10)))))]) (v0 := sV 0 4) (v := sV 2 4) [2] (by kernel_rfl) (by kernel_rfl) (by kernel_rfl) (by kernel_rfl) (asq1_ok ((xs.getD 0 0 % 30) - 15) ((xs.getD 1 0 % 30) - 15) (6 + (xs.getD 2 0 % 10)) (by omega) (by omega) (by omega) (by omega) (by omega) (by omega)) (.flats (by kernel_rfl)) trivial (by kernel_rfl) (by kernel_rfl) (by kernel_rfl) ⟨rfl, bP, trivial⟩ rS) <|
    .a 2 3 <| .nil _ _) ?_
  refine aw_sq 254 255 ?_
  refine aw_p 509 (
    .a 1 4 <|
    .p (cF #[.tmp 29, .const (.int .i64 4)] #[58, 3] [.pointer (some ⟨1, 0, none⟩), .int .i64 4] 0 [1, 0] [(1, ⟨[.slice (some ⟨0, (min 3 xs.length), none⟩) (xs.length - 3) 0], 60, true, 1⟩), (0, ⟨(xs.map i64v), 3, false, 1⟩)] [(1, ⟨[.slice (some ⟨0, (min 4 xs.length), none⟩) (xs.length - 4) 0], 60, true, 1⟩)] (.int .i64 (xs.getD 3 0 % 4)) (nextz xs 3 4 (by decide) (by decide)) (.cons (.ptr _ _ (by decide)) (.cons rF .nil)) ⟨rfl, ⟨rfl, rfl, rfl, (.cons rS .nil)⟩, rfl, ⟨rfl, rfl, rfl, (.flats (flats_map (fun _ => rfl) _))⟩, trivial⟩ ⟨rfl, ⟨rfl, rfl, rfl, (.cons rS .nil)⟩, trivial⟩ rF) <| .nil _ _) ?_
  refine aw_bl 0 1019 ?_
  refine aw_p 2039 (
    .p (does_b false ((show ((xs.getD 3 0 % 4) == 1) = false from (by rw [hs]; decide)))) <| .a 1 4 <| .nil _ _) ?_
  refine aw_fl 4079 ?_
  refine aw_p 8159 (
    .p (does_b false ((show ((xs.getD 3 0 % 4) == 2) = false from (by rw [hs]; decide)))) <| .a 1 4 <| .nil _ _) ?_
  refine aw_fl 16319 ?_
  refine aw_p 32639 (
    .p (does_b true ((show ((xs.getD 3 0 % 4) == 3) = true from (by rw [hs]; decide)))) <| .a 1 4 <| .nil _ _) ?_
  refine aw_tr 65278 ?_
  refine aw_p 130557 (
    .a 4 4 <| .p (does_i (((xs.getD 0 0 % 30) - 15) + (6 + (xs.getD 2 0 % 10))) (wrap_i64 (by omega) (by omega)) .i64) <| .p (does_i ((((xs.getD 0 0 % 30) - 15) + (6 + (xs.getD 2 0 % 10))) + 3) (wrap_i64 (by omega) (by omega)) .i64) <| .a 1 4 <|
    .p (cF #[.tmp 77, .const (.int .i64 3)] #[58, 3] [.pointer (some ⟨1, 0, none⟩), .int .i64 3] 0 [1, 0] [(1, ⟨[.slice (some ⟨0, (min 4 xs.length), none⟩) (xs.length - 4) 0], 60, true, 1⟩), (0, ⟨(xs.map i64v), 3, false, 1⟩)] [(1, ⟨[.slice (some ⟨0, (min 5 xs.length), none⟩) (xs.length - 5) 0], 60, true, 1⟩)] (.int .i64 (xs.getD 4 0 % 3)) (nextz xs 4 3 (by decide) (by decide)) (.cons (.ptr _ _ (by decide)) (.cons rF .nil)) ⟨rfl, ⟨rfl, rfl, rfl, (.cons rS .nil)⟩, rfl, ⟨rfl, rfl, rfl, (.flats (flats_map (fun _ => rfl) _))⟩, trivial⟩ ⟨rfl, ⟨rfl, rfl, rfl, (.cons rS .nil)⟩, trivial⟩ rF) <|
    .p (does_i (((((xs.getD 0 0 % 30) - 15) + (6 + (xs.getD 2 0 % 10))) + 3) + (xs.getD 4 0 % 3)) (wrap_i64 (by omega) (by omega)) .i64) <| .a 1 4 <|
    .p (does_callB (x := .tmp 72) (ars := #[.tmp 79, .tmp 80, .const (.int .i64 2)]) (ats := #[3, 3, 3]) (g := 24) (vs := [.int .i64 (((((xs.getD 0 0 % 30) - 15) + (6 + (xs.getD 2 0 % 10))) + 3) + (xs.getD 4 0 % 3)), .int .i64 ((xs.getD 1 0 % 30) - 15), .int .i64 2]) (m := 0) (r := 1) (firsts := #[]) (caps := #[]) (args0 := [.int .i64 (((((xs.getD 0 0 % 30) - 15) + (6 + (xs.getD 2 0 % 10))) + 3) + (xs.getD 4 0 % 3)), .int .i64 ((xs.getD 1 0 % 30) - 15), .int .i64 2]) (pre0 := []) (post0 := [(0, (pB (Sp.sqr (((((xs.getD 0 0 % 30) - 15) + (6 + (xs.getD 2 0 % 10))) + 3) + (xs.getD 4 0 % 3)) ((xs.getD 1 0 % 30) - 15) 2)))]) (pre := []) (post := [(4, (pB (Sp.sqr (((((xs.getD 0 0 % 30) - 15) + (6 + (xs.getD 2 0 % 10))) + 3) + (xs.getD 4 0 % 3)) ((xs.getD 1 0 % 30) - 15) 2)))]) (v0 := sV 0 4) (v := sV 4 4) [4] (by kernel_rfl) (by kernel_rfl) (by kernel_rfl) (by kernel_rfl) (asq1_ok (((((xs.getD 0 0 % 30) - 15) + (6 + (xs.getD 2 0 % 10))) + 3) + (xs.getD 4 0 % 3)) ((xs.getD 1 0 % 30) - 15) 2 (by omega) (by omega) (by omega) (by omega) (by omega) (by omega)) (.flats (by kernel_rfl)) trivial (by kernel_rfl) (by kernel_rfl) (by kernel_rfl) ⟨rfl, bP, trivial⟩ rS) <|
    .a 1 5 <| .p (does_ap 6) <| .a 1 7 <| .nil _ _) ?_
  refine aw_r [(1, 6), (3, 4)] [(2, sV 6 2)] [(0, ⟨(xs.map i64v), 3, false, 1⟩), (6, ⟨[sV 2 4, sV 4 4], 39, true, 1⟩), (2, (pB (Sp.sqr ((xs.getD 0 0 % 30) - 15) ((xs.getD 1 0 % 30) - 15) (6 + (xs.getD 2 0 % 10))))), (4, (pB (Sp.sqr (((((xs.getD 0 0 % 30) - 15) + (6 + (xs.getD 2 0 % 10))) + 3) + (xs.getD 4 0 % 3)) ((xs.getD 1 0 % 30) - 15) 2)))] [(2, sV 1 2)] [(0, ⟨(xs.map i64v), 3, false, 1⟩), (1, ⟨[sV 2 4, sV 3 4], 39, true, 1⟩), (2, (pB (Sp.sqr ((xs.getD 0 0 % 30) - 15) ((xs.getD 1 0 % 30) - 15) (6 + (xs.getD 2 0 % 10))))), (3, (pB (Sp.sqr (((((xs.getD 0 0 % 30) - 15) + (6 + (xs.getD 2 0 % 10))) + 3) + (xs.getD 4 0 % 3)) ((xs.getD 1 0 % 30) - 15) 2)))] ?_ ⟨rfl, (rK rfl), trivial⟩ ⟨rfl, ⟨rfl, rfl, rfl, (.flats (flats_map (fun _ => rfl) _))⟩, rfl, ⟨rfl, rfl, rfl, (.cons (rK rfl) (.cons (rK rfl) .nil))⟩, rfl, ⟨rfl, rfl, rfl, (.flats (flats_pair _))⟩, rfl, ⟨rfl, rfl, rfl, (.flats (flats_pair _))⟩, trivial⟩
  refine aw_rt ?_
  refine block_ret ?_
  refine then_ret ?_
  exact en_ret [sV 1 2] (by kernel_rfl)
end Go.Proofs.YtndkhgfecnbmnaaGreat.Am

namespace Go.Proofs.YtndkhgfecnbmnaaGreat.Am
open Go Go.Proofs
set_option maxRecDepth 100000
set_option maxHeartbeats 4000000
set_option linter.unusedVariables false
set_option linter.unusedSimpArgs false
theorem shadd0S (px py qx qy rx ry : Int) (pxl : -1048576 ≤ px) (pxu : px ≤ 1048576) (pyl : -1048576 ≤ py) (pyu : py ≤ 1048576) (qxl : -1048576 ≤ qx) (qxu : qx ≤ 1048576) (qyl : -1048576 ≤ qy) (qyu : qy ≤ 1048576) (rxl : -1048576 ≤ rx) (rxu : rx ≤ 1048576) (ryl : -1048576 ≤ ry) (ryu : ry ≤ 1048576) (h : Sp.addb [] px py qx qy rx ry = false) :
    AC Tryz.prog 69 1 ([.agg #[.int .i64 px, .int .i64 py], .agg #[.int .i64 qx, .int .i64 qy], .agg #[.int .i64 rx, .int .i64 ry], .pointer (some ⟨0, 0, none⟩)]) [(0, ⟨[.slice none 0 0], 39, true, 1⟩)] (.tuple #[]) [(0, ⟨[.slice none 0 0], 39, true, 1⟩)] := by
  refine ac_in Tryz.func69 (fun w0 W pin => ?_)
  refine aw_p 3 (
    .a 3 1 <| .nil _ _) ?_
  refine aw_sq 6 7 ?_
  refine aw_p 13 (
    .a 3 4 <| .p (does_cb _ (on_in qx qy rx ry px py (by omega) (by omega) (by omega) (by omega) (by omega) (by omega) (by omega) (by omega) (by omega) (by omega) (by omega) (by omega)) false ((show (Sp.onb qx qy rx ry px py) = false from (by simpa [Sp.addb, Sp.has2] using h)))) <| .a 1 4 <| .nil _ _) ?_
  refine aw_tr 26 ?_
  refine aw_rt ?_
  refine then_ret ?_
  exact en_ret [] (by kernel_rfl)
theorem shadd0A (px py qx qy rx ry : Int) (pxl : -1048576 ≤ px) (pxu : px ≤ 1048576) (pyl : -1048576 ≤ py) (pyu : py ≤ 1048576) (qxl : -1048576 ≤ qx) (qxu : qx ≤ 1048576) (qyl : -1048576 ≤ qy) (qyu : qy ≤ 1048576) (rxl : -1048576 ≤ rx) (rxu : rx ≤ 1048576) (ryl : -1048576 ≤ ry) (ryu : ry ≤ 1048576) (h : Sp.addb [] px py qx qy rx ry = true) :
    AC Tryz.prog 69 1 ([.agg #[.int .i64 px, .int .i64 py], .agg #[.int .i64 qx, .int .i64 qy], .agg #[.int .i64 rx, .int .i64 ry], .pointer (some ⟨0, 0, none⟩)]) [(0, ⟨[.slice none 0 0], 39, true, 1⟩)] (.tuple #[]) [(0, ⟨[sV 1 1], 39, true, 1⟩), (1, ⟨[.int .i64 px, .int .i64 py], 28, true, 2⟩)] := by
  refine ac_in Tryz.func69 (fun w0 W pin => ?_)
  refine aw_p 3 (
    .a 3 2 <| .nil _ _) ?_
  refine aw_sq 6 7 ?_
  refine aw_p 13 (
    .a 3 5 <| .p (does_cb _ (on_in qx qy rx ry px py (by omega) (by omega) (by omega) (by omega) (by omega) (by omega) (by omega) (by omega) (by omega) (by omega) (by omega) (by omega)) true ((Sp.addb_on h))) <| .a 1 5 <| .nil _ _) ?_
  refine aw_fl 27 ?_
  refine aw_sk ?_
  refine then_normal ?_
  refine aw_sq 14 15 ?_
  refine aw_p 29 (
    .a 3 5 <| .nil _ _) ?_
  refine aw_bl 0 59 ?_
  refine aw_lp 119 ?_
  refine al_round ?_
  refine aw_p 239 (
    .a 1 5 <| .nil _ _) ?_
  refine aw_sq 478 479 ?_
  refine aw_fl 957 ?_
  refine aw_ex 0 ?_
  refine then_exit ?_
  refine then_exit ?_
  refine block_exit ?_
  refine then_normal ?_
  refine aw_p1 (
    .a 3 5 <| .p (does_ap 1) <| .a 1 6 <| .nil _ _) ?_
  exact en_normal [] (by kernel_rfl)
theorem shadd1S (x1 y1 px py qx qy rx ry : Int) (pxl : -1048576 ≤ px) (pxu : px ≤ 1048576) (pyl : -1048576 ≤ py) (pyu : py ≤ 1048576) (qxl : -1048576 ≤ qx) (qxu : qx ≤ 1048576) (qyl : -1048576 ≤ qy) (qyu : qy ≤ 1048576) (rxl : -1048576 ≤ rx) (rxu : rx ≤ 1048576) (ryl : -1048576 ≤ ry) (ryu : ry ≤ 1048576) (h : Sp.addb [(x1, y1)] px py qx qy rx ry = false) :
    AC Tryz.prog 69 2 ([.agg #[.int .i64 px, .int .i64 py], .agg #[.int .i64 qx, .int .i64 qy], .agg #[.int .i64 rx, .int .i64 ry], .pointer (some ⟨0, 0, none⟩)]) [(0, ⟨[sV 1 1], 39, true, 1⟩), (1, ⟨[.int .i64 x1, .int .i64 y1], 28, true, 2⟩)] (.tuple #[]) [(0, ⟨[sV 1 1], 39, true, 1⟩), (1, ⟨[.int .i64 x1, .int .i64 y1], 28, true, 2⟩)] := by
  refine ac_in Tryz.func69 (fun w0 W pin => ?_)
  refine aw_p 3 (
    .a 3 2 <| .nil _ _) ?_
  refine aw_sq 6 7 ?_
  refine aw_p 13 (
    .a 3 5 <| .p (does_c (on_in qx qy rx ry px py (by omega) (by omega) (by omega) (by omega) (by omega) (by omega) (by omega) (by omega) (by omega) (by omega) (by omega) (by omega))) <| .a 1 5 <| .nil _ _) ?_
  refine aw_cd 26 27 (!(Sp.onb qx qy rx ry px py)) (fun h1 => ?_) (fun h1 => ?_)
  · refine aw_rt ?_
    refine then_ret ?_
    exact en_ret [] (by kernel_rfl)
  · refine aw_sk ?_
    refine then_normal ?_
    refine aw_sq 14 15 ?_
    refine aw_p 29 (
      .a 3 5 <| .nil _ _) ?_
    refine aw_bl 0 59 ?_
    refine aw_lp 119 ?_
    refine al_round ?_
    refine aw_p 239 (
      .a 1 5 <| .nil _ _) ?_
    refine aw_sq 478 479 ?_
    refine aw_tr 956 ?_
    refine aw_sk ?_
    refine then_normal ?_
    refine aw_sq 958 959 ?_
    refine aw_bl 1 1917 ?_
    refine aw_p 3835 (
      .a 4 5 <| .nil _ _) ?_
    refine aw_p 7671 (
      .a 2 6 <|
      .p (does_e true ((show ((x1 == px) && ((y1 == py) && true)) = true from (by have q := h; simp only [Sp.addb, Sp.has2, List.any_cons, List.any_nil, (show Sp.onb qx qy rx ry px py = true from (by simpa using h1)), Bool.or_false, Bool.false_or, Bool.true_and, Bool.not_eq_false'] at q; exact q)))) <| .nil _ _) ?_
    refine aw_tr 15342 ?_
    refine aw_rt ?_
    refine block_ret ?_
    refine then_ret ?_
    refine then_ret ?_
    refine block_ret ?_
    refine then_ret ?_
    exact en_ret [] (by kernel_rfl)
theorem shadd1A (x1 y1 px py qx qy rx ry : Int) (pxl : -1048576 ≤ px) (pxu : px ≤ 1048576) (pyl : -1048576 ≤ py) (pyu : py ≤ 1048576) (qxl : -1048576 ≤ qx) (qxu : qx ≤ 1048576) (qyl : -1048576 ≤ qy) (qyu : qy ≤ 1048576) (rxl : -1048576 ≤ rx) (rxu : rx ≤ 1048576) (ryl : -1048576 ≤ ry) (ryu : ry ≤ 1048576) (h : Sp.addb [(x1, y1)] px py qx qy rx ry = true) :
    AC Tryz.prog 69 2 ([.agg #[.int .i64 px, .int .i64 py], .agg #[.int .i64 qx, .int .i64 qy], .agg #[.int .i64 rx, .int .i64 ry], .pointer (some ⟨0, 0, none⟩)]) [(0, ⟨[sV 1 1], 39, true, 1⟩), (1, ⟨[.int .i64 x1, .int .i64 y1], 28, true, 2⟩)] (.tuple #[]) [(0, ⟨[sV 2 2], 39, true, 1⟩), (2, ⟨[.int .i64 x1, .int .i64 y1, .int .i64 px, .int .i64 py], 28, true, 2⟩)] := by
  refine ac_in Tryz.func69 (fun w0 W pin => ?_)
  refine aw_p 3 (
    .a 3 3 <| .nil _ _) ?_
  refine aw_sq 6 7 ?_
  refine aw_p 13 (
    .a 3 6 <| .p (does_cb _ (on_in qx qy rx ry px py (by omega) (by omega) (by omega) (by omega) (by omega) (by omega) (by omega) (by omega) (by omega) (by omega) (by omega) (by omega)) true ((Sp.addb_on h))) <| .a 1 6 <| .nil _ _) ?_
  refine aw_fl 27 ?_
  refine aw_sk ?_
  refine then_normal ?_
  refine aw_sq 14 15 ?_
  refine aw_p 29 (
    .a 3 6 <| .nil _ _) ?_
  refine aw_bl 0 59 ?_
  refine aw_lp 119 ?_
  refine al_round ?_
  refine aw_p 239 (
    .a 1 6 <| .nil _ _) ?_
  refine aw_sq 478 479 ?_
  refine aw_tr 956 ?_
  refine aw_sk ?_
  refine then_normal ?_
  refine aw_sq 958 959 ?_
  refine aw_bl 1 1917 ?_
  refine aw_p 3835 (
    .a 4 6 <| .nil _ _) ?_
  refine aw_p 7671 (
    .a 2 7 <| .p (does_e false ((show ((x1 == px) && ((y1 == py) && true)) = false from (Sp.has2_mem (l := [(x1, y1)]) (x := x1) (y := y1) (by simp) (Sp.addb_no h))))) <| .nil _ _) ?_
  refine aw_fl 15343 ?_
  refine aw_sk ?_
  refine block_normal ?_
  refine then_normal ?_
  refine aw_p1 (
    .a 2 7 <| .nil _ _) ?_
  refine then_normal ?_
  refine al_round ?_
  refine aw_p 239 (
    .a 1 7 <| .nil _ _) ?_
  refine aw_sq 478 479 ?_
  refine aw_fl 957 ?_
  refine aw_ex 0 ?_
  refine then_exit ?_
  refine then_exit ?_
  refine block_exit ?_
  refine then_normal ?_
  refine aw_p1 (
    .a 3 7 <| .p (does_ap 2) <| .a 1 8 <| .nil _ _) ?_
  exact en_normal [] (by kernel_rfl)
theorem shadd2S (x1 y1 x2 y2 px py qx qy rx ry : Int) (pxl : -1048576 ≤ px) (pxu : px ≤ 1048576) (pyl : -1048576 ≤ py) (pyu : py ≤ 1048576) (qxl : -1048576 ≤ qx) (qxu : qx ≤ 1048576) (qyl : -1048576 ≤ qy) (qyu : qy ≤ 1048576) (rxl : -1048576 ≤ rx) (rxu : rx ≤ 1048576) (ryl : -1048576 ≤ ry) (ryu : ry ≤ 1048576) (h : Sp.addb [(x1, y1), (x2, y2)] px py qx qy rx ry = false) :
    AC Tryz.prog 69 2 ([.agg #[.int .i64 px, .int .i64 py], .agg #[.int .i64 qx, .int .i64 qy], .agg #[.int .i64 rx, .int .i64 ry], .pointer (some ⟨0, 0, none⟩)]) [(0, ⟨[sV 1 2], 39, true, 1⟩), (1, ⟨[.int .i64 x1, .int .i64 y1, .int .i64 x2, .int .i64 y2], 28, true, 2⟩)] (.tuple #[]) [(0, ⟨[sV 1 2], 39, true, 1⟩), (1, ⟨[.int .i64 x1, .int .i64 y1, .int .i64 x2, .int .i64 y2], 28, true, 2⟩)] := by
  refine ac_in Tryz.func69 (fun w0 W pin => ?_)
  refine aw_p 3 (
    .a 3 2 <| .nil _ _) ?_
  refine aw_sq 6 7 ?_
  refine aw_p 13 (
    .a 3 5 <| .p (does_c (on_in qx qy rx ry px py (by omega) (by omega) (by omega) (by omega) (by omega) (by omega) (by omega) (by omega) (by omega) (by omega) (by omega) (by omega))) <| .a 1 5 <| .nil _ _) ?_
  refine aw_cd 26 27 (!(Sp.onb qx qy rx ry px py)) (fun h1 => ?_) (fun h1 => ?_)
  · refine aw_rt ?_
    refine then_ret ?_
    exact en_ret [] (by kernel_rfl)
  · refine aw_sk ?_
    refine then_normal ?_
    refine aw_sq 14 15 ?_
    refine aw_p 29 (
      .a 3 5 <| .nil _ _) ?_
    refine aw_bl 0 59 ?_
    refine aw_lp 119 ?_
    refine al_round ?_
    refine aw_p 239 (
      .a 1 5 <| .nil _ _) ?_
    refine aw_sq 478 479 ?_
    refine aw_tr 956 ?_
    refine aw_sk ?_
    refine then_normal ?_
    refine aw_sq 958 959 ?_
    refine aw_bl 1 1917 ?_
    refine aw_p 3835 (
      .a 4 5 <| .nil _ _) ?_
    refine aw_p 7671 (
      .a 2 6 <| .p (does_e ((x1 == px) && ((y1 == py) && true)) (rfl)) <| .nil _ _) ?_
    refine aw_cd 15342 15343 ((x1 == px) && ((y1 == py) && true)) (fun h2 => ?_) (fun h2 => ?_)
    · have h2p : ((x1 = px ∧ y1 = py)) := by first | (simpa using h2) | (have h2q := h2; simp at h2q; omega) | (have h2q := bx1 h2; simp at h2q; omega)
      refine aw_rt ?_
      refine block_ret ?_
      refine then_ret ?_
      refine then_ret ?_
      refine block_ret ?_
      refine then_ret ?_
      exact en_ret [] (by kernel_rfl)
    · have h2p : ¬ ((x1 = px ∧ y1 = py)) := by first | (simpa using h2) | (have h2q := h2; simp at h2q; omega) | (have h2q := bx2 h2; simp at h2q; omega)
      refine aw_sk ?_
      refine block_normal ?_
      refine then_normal ?_
      refine aw_p1 (
        .a 2 6 <| .nil _ _) ?_
      refine then_normal ?_
      refine al_round ?_
      refine aw_p 239 (
        .a 1 6 <| .nil _ _) ?_
      refine aw_sq 478 479 ?_
      refine aw_tr 956 ?_
      refine aw_sk ?_
      refine then_normal ?_
      refine aw_sq 958 959 ?_
      refine aw_bl 1 1917 ?_
      refine aw_p 3835 (
        .a 4 6 <| .nil _ _) ?_
      refine aw_p 7671 (
        .a 2 7 <|
        .p (does_e true ((show ((x2 == px) && ((y2 == py) && true)) = true from (by have q := h; simp only [Sp.addb, Sp.has2, List.any_cons, List.any_nil, (show Sp.onb qx qy rx ry px py = true from (by simpa using h1)), h2, Bool.or_false, Bool.false_or, Bool.true_and, Bool.not_eq_false'] at q; exact q)))) <| .nil _ _) ?_
      refine aw_tr 15342 ?_
      refine aw_rt ?_
      refine block_ret ?_
      refine then_ret ?_
      refine then_ret ?_
      refine block_ret ?_
      refine then_ret ?_
      exact en_ret [] (by kernel_rfl)
theorem shadd2A (x1 y1 x2 y2 px py qx qy rx ry : Int) (pxl : -1048576 ≤ px) (pxu : px ≤ 1048576) (pyl : -1048576 ≤ py) (pyu : py ≤ 1048576) (qxl : -1048576 ≤ qx) (qxu : qx ≤ 1048576) (qyl : -1048576 ≤ qy) (qyu : qy ≤ 1048576) (rxl : -1048576 ≤ rx) (rxu : rx ≤ 1048576) (ryl : -1048576 ≤ ry) (ryu : ry ≤ 1048576) (h : Sp.addb [(x1, y1), (x2, y2)] px py qx qy rx ry = true) :
    AC Tryz.prog 69 2 ([.agg #[.int .i64 px, .int .i64 py], .agg #[.int .i64 qx, .int .i64 qy], .agg #[.int .i64 rx, .int .i64 ry], .pointer (some ⟨0, 0, none⟩)]) [(0, ⟨[sV 1 2], 39, true, 1⟩), (1, ⟨[.int .i64 x1, .int .i64 y1, .int .i64 x2, .int .i64 y2], 28, true, 2⟩)] (.tuple #[]) [(0, ⟨[sV 2 3], 39, true, 1⟩), (2, ⟨[.int .i64 x1, .int .i64 y1, .int .i64 x2, .int .i64 y2, .int .i64 px, .int .i64 py], 28, true, 2⟩)] := by
  refine ac_in Tryz.func69 (fun w0 W pin => ?_)
  refine aw_p 3 (
    .a 3 3 <| .nil _ _) ?_
  refine aw_sq 6 7 ?_
  refine aw_p 13 (
    .a 3 6 <| .p (does_cb _ (on_in qx qy rx ry px py (by omega) (by omega) (by omega) (by omega) (by omega) (by omega) (by omega) (by omega) (by omega) (by omega) (by omega) (by omega)) true ((Sp.addb_on h))) <| .a 1 6 <| .nil _ _) ?_
  refine aw_fl 27 ?_
  refine aw_sk ?_
  refine then_normal ?_
  refine aw_sq 14 15 ?_
  refine aw_p 29 (
    .a 3 6 <| .nil _ _) ?_
  refine aw_bl 0 59 ?_
  refine aw_lp 119 ?_
  refine al_round ?_
  refine aw_p 239 (
    .a 1 6 <| .nil _ _) ?_
  refine aw_sq 478 479 ?_
  refine aw_tr 956 ?_
  refine aw_sk ?_
  refine then_normal ?_
  refine aw_sq 958 959 ?_
  refine aw_bl 1 1917 ?_
  refine aw_p 3835 (
    .a 4 6 <| .nil _ _) ?_
  refine aw_p 7671 (
    .a 2 7 <| .p (does_e false ((show ((x1 == px) && ((y1 == py) && true)) = false from (Sp.has2_mem (l := [(x1, y1), (x2, y2)]) (x := x1) (y := y1) (by simp) (Sp.addb_no h))))) <| .nil _ _) ?_
  refine aw_fl 15343 ?_
  refine aw_sk ?_
  refine block_normal ?_
  refine then_normal ?_
  refine aw_p1 (
    .a 2 7 <| .nil _ _) ?_
  refine then_normal ?_
  refine al_round ?_
  refine aw_p 239 (
    .a 1 7 <| .nil _ _) ?_
  refine aw_sq 478 479 ?_
  refine aw_tr 956 ?_
  refine aw_sk ?_
  refine then_normal ?_
  refine aw_sq 958 959 ?_
  refine aw_bl 1 1917 ?_
  refine aw_p 3835 (
    .a 4 7 <| .nil _ _) ?_
  refine aw_p 7671 (
    .a 2 8 <| .p (does_e false ((show ((x2 == px) && ((y2 == py) && true)) = false from (Sp.has2_mem (l := [(x1, y1), (x2, y2)]) (x := x2) (y := y2) (by simp) (Sp.addb_no h))))) <| .nil _ _) ?_
  refine aw_fl 15343 ?_
  refine aw_sk ?_
  refine block_normal ?_
  refine then_normal ?_
  refine aw_p1 (
    .a 2 8 <| .nil _ _) ?_
  refine then_normal ?_
  refine al_round ?_
  refine aw_p 239 (
    .a 1 8 <| .nil _ _) ?_
  refine aw_sq 478 479 ?_
  refine aw_fl 957 ?_
  refine aw_ex 0 ?_
  refine then_exit ?_
  refine then_exit ?_
  refine block_exit ?_
  refine then_normal ?_
  refine aw_p1 (
    .a 3 8 <| .p (does_ap 2) <| .a 1 9 <| .nil _ _) ?_
  exact en_normal [] (by kernel_rfl)
theorem shadd3S (x1 y1 x2 y2 x3 y3 px py qx qy rx ry : Int) (pxl : -1048576 ≤ px) (pxu : px ≤ 1048576) (pyl : -1048576 ≤ py) (pyu : py ≤ 1048576) (qxl : -1048576 ≤ qx) (qxu : qx ≤ 1048576) (qyl : -1048576 ≤ qy) (qyu : qy ≤ 1048576) (rxl : -1048576 ≤ rx) (rxu : rx ≤ 1048576) (ryl : -1048576 ≤ ry) (ryu : ry ≤ 1048576) (h : Sp.addb [(x1, y1), (x2, y2), (x3, y3)] px py qx qy rx ry = false) :
    AC Tryz.prog 69 2 ([.agg #[.int .i64 px, .int .i64 py], .agg #[.int .i64 qx, .int .i64 qy], .agg #[.int .i64 rx, .int .i64 ry], .pointer (some ⟨0, 0, none⟩)]) [(0, ⟨[sV 1 3], 39, true, 1⟩), (1, ⟨[.int .i64 x1, .int .i64 y1, .int .i64 x2, .int .i64 y2, .int .i64 x3, .int .i64 y3], 28, true, 2⟩)] (.tuple #[]) [(0, ⟨[sV 1 3], 39, true, 1⟩), (1, ⟨[.int .i64 x1, .int .i64 y1, .int .i64 x2, .int .i64 y2, .int .i64 x3, .int .i64 y3], 28, true, 2⟩)] := by
  refine ac_in Tryz.func69 (fun w0 W pin => ?_)
  refine aw_p 3 (
    .a 3 2 <| .nil _ _) ?_
  refine aw_sq 6 7 ?_
  refine aw_p 13 (
    .a 3 5 <| .p (does_c (on_in qx qy rx ry px py (by omega) (by omega) (by omega) (by omega) (by omega) (by omega) (by omega) (by omega) (by omega) (by omega) (by omega) (by omega))) <| .a 1 5 <| .nil _ _) ?_
  refine aw_cd 26 27 (!(Sp.onb qx qy rx ry px py)) (fun h1 => ?_) (fun h1 => ?_)
  · refine aw_rt ?_
    refine then_ret ?_
    exact en_ret [] (by kernel_rfl)
  · refine aw_sk ?_
    refine then_normal ?_
    refine aw_sq 14 15 ?_
    refine aw_p 29 (
      .a 3 5 <| .nil _ _) ?_
    refine aw_bl 0 59 ?_
    refine aw_lp 119 ?_
    refine al_round ?_
    refine aw_p 239 (
      .a 1 5 <| .nil _ _) ?_
    refine aw_sq 478 479 ?_
    refine aw_tr 956 ?_
    refine aw_sk ?_
    refine then_normal ?_
    refine aw_sq 958 959 ?_
    refine aw_bl 1 1917 ?_
    refine aw_p 3835 (
      .a 4 5 <| .nil _ _) ?_
    refine aw_p 7671 (
      .a 2 6 <| .p (does_e ((x1 == px) && ((y1 == py) && true)) (rfl)) <| .nil _ _) ?_
    refine aw_cd 15342 15343 ((x1 == px) && ((y1 == py) && true)) (fun h2 => ?_) (fun h2 => ?_)
    · have h2p : ((x1 = px ∧ y1 = py)) := by first | (simpa using h2) | (have h2q := h2; simp at h2q; omega) | (have h2q := bx1 h2; simp at h2q; omega)
      refine aw_rt ?_
      refine block_ret ?_
      refine then_ret ?_
      refine then_ret ?_
      refine block_ret ?_
      refine then_ret ?_
      exact en_ret [] (by kernel_rfl)
    · have h2p : ¬ ((x1 = px ∧ y1 = py)) := by first | (simpa using h2) | (have h2q := h2; simp at h2q; omega) | (have h2q := bx2 h2; simp at h2q; omega)
      refine aw_sk ?_
      refine block_normal ?_
      refine then_normal ?_
      refine aw_p1 (
        .a 2 6 <| .nil _ _) ?_
      refine then_normal ?_
      refine al_round ?_
      refine aw_p 239 (
        .a 1 6 <| .nil _ _) ?_
      refine aw_sq 478 479 ?_
      refine aw_tr 956 ?_
      refine aw_sk ?_
      refine then_normal ?_
      refine aw_sq 958 959 ?_
      refine aw_bl 1 1917 ?_
      refine aw_p 3835 (
        .a 4 6 <| .nil _ _) ?_
      refine aw_p 7671 (
        .a 2 7 <| .p (does_e ((x2 == px) && ((y2 == py) && true)) (rfl)) <| .nil _ _) ?_
      refine aw_cd 15342 15343 ((x2 == px) && ((y2 == py) && true)) (fun h3 => ?_) (fun h3 => ?_)
      · have h3p : ((x2 = px ∧ y2 = py)) := by first | (simpa using h3) | (have h3q := h3; simp at h3q; omega) | (have h3q := bx1 h3; simp at h3q; omega)
        refine aw_rt ?_
        refine block_ret ?_
        refine then_ret ?_
        refine then_ret ?_
        refine block_ret ?_
        refine then_ret ?_
        exact en_ret [] (by kernel_rfl)
      · have h3p : ¬ ((x2 = px ∧ y2 = py)) := by first | (simpa using h3) | (have h3q := h3; simp at h3q; omega) | (have h3q := bx2 h3; simp at h3q; omega)
        refine aw_sk ?_
        refine block_normal ?_
        refine then_normal ?_
        refine aw_p1 (
          .a 2 7 <| .nil _ _) ?_
        refine then_normal ?_
        refine al_round ?_
        refine aw_p 239 (
          .a 1 7 <| .nil _ _) ?_
        refine aw_sq 478 479 ?_
        refine aw_tr 956 ?_
        refine aw_sk ?_
        refine then_normal ?_
        refine aw_sq 958 959 ?_
        refine aw_bl 1 1917 ?_
        refine aw_p 3835 (
          .a 4 7 <| .nil _ _) ?_
        refine aw_p 7671 (
          .a 2 8 <|
          .p (does_e true ((show ((x3 == px) && ((y3 == py) && true)) = true from (by have q := h; simp only [Sp.addb, Sp.has2, List.any_cons, List.any_nil, (show Sp.onb qx qy rx ry px py = true from (by simpa using h1)), h2, h3, Bool.or_false, Bool.false_or, Bool.true_and, Bool.not_eq_false'] at q; exact q)))) <| .nil _ _) ?_
        refine aw_tr 15342 ?_
        refine aw_rt ?_
        refine block_ret ?_
        refine then_ret ?_
        refine then_ret ?_
        refine block_ret ?_
        refine then_ret ?_
        exact en_ret [] (by kernel_rfl)
theorem shadd3A (x1 y1 x2 y2 x3 y3 px py qx qy rx ry : Int) (pxl : -1048576 ≤ px) (pxu : px ≤ 1048576) (pyl : -1048576 ≤ py) (pyu : py ≤ 1048576) (qxl : -1048576 ≤ qx) (qxu : qx ≤ 1048576) (qyl : -1048576 ≤ qy) (qyu : qy ≤ 1048576) (rxl : -1048576 ≤ rx) (rxu : rx ≤ 1048576) (ryl : -1048576 ≤ ry) (ryu : ry ≤ 1048576) (h : Sp.addb [(x1, y1), (x2, y2), (x3, y3)] px py qx qy rx ry = true) :
    AC Tryz.prog 69 2 ([.agg #[.int .i64 px, .int .i64 py], .agg #[.int .i64 qx, .int .i64 qy], .agg #[.int .i64 rx, .int .i64 ry], .pointer (some ⟨0, 0, none⟩)]) [(0, ⟨[sV 1 3], 39, true, 1⟩), (1, ⟨[.int .i64 x1, .int .i64 y1, .int .i64 x2, .int .i64 y2, .int .i64 x3, .int .i64 y3], 28, true, 2⟩)] (.tuple #[]) [(0, ⟨[sV 2 4], 39, true, 1⟩), (2, ⟨[.int .i64 x1, .int .i64 y1, .int .i64 x2, .int .i64 y2, .int .i64 x3, .int .i64 y3, .int .i64 px, .int .i64 py], 28, true, 2⟩)] := by
  refine ac_in Tryz.func69 (fun w0 W pin => ?_)
  refine aw_p 3 (
    .a 3 3 <| .nil _ _) ?_
  refine aw_sq 6 7 ?_
  refine aw_p 13 (
    .a 3 6 <| .p (does_cb _ (on_in qx qy rx ry px py (by omega) (by omega) (by omega) (by omega) (by omega) (by omega) (by omega) (by omega) (by omega) (by omega) (by omega) (by omega)) true ((Sp.addb_on h))) <| .a 1 6 <| .nil _ _) ?_
  refine aw_fl 27 ?_
  refine aw_sk ?_
  refine then_normal ?_
  refine aw_sq 14 15 ?_
  refine aw_p 29 (
    .a 3 6 <| .nil _ _) ?_
  refine aw_bl 0 59 ?_
  refine aw_lp 119 ?_
  refine al_round ?_
  refine aw_p 239 (
    .a 1 6 <| .nil _ _) ?_
  refine aw_sq 478 479 ?_
  refine aw_tr 956 ?_
  refine aw_sk ?_
  refine then_normal ?_
  refine aw_sq 958 959 ?_
  refine aw_bl 1 1917 ?_
  refine aw_p 3835 (
    .a 4 6 <| .nil _ _) ?_
  refine aw_p 7671 (
    .a 2 7 <| .p (does_e false ((show ((x1 == px) && ((y1 == py) && true)) = false from (Sp.has2_mem (l := [(x1, y1), (x2, y2), (x3, y3)]) (x := x1) (y := y1) (by simp) (Sp.addb_no h))))) <| .nil _ _) ?_
  refine aw_fl 15343 ?_
  refine aw_sk ?_
  refine block_normal ?_
  refine then_normal ?_
  refine aw_p1 (
    .a 2 7 <| .nil _ _) ?_
  refine then_normal ?_
  refine al_round ?_
  refine aw_p 239 (
    .a 1 7 <| .nil _ _) ?_
  refine aw_sq 478 479 ?_
  refine aw_tr 956 ?_
  refine aw_sk ?_
  refine then_normal ?_
  refine aw_sq 958 959 ?_
  refine aw_bl 1 1917 ?_
  refine aw_p 3835 (
    .a 4 7 <| .nil _ _) ?_
  refine aw_p 7671 (
    .a 2 8 <| .p (does_e false ((show ((x2 == px) && ((y2 == py) && true)) = false from (Sp.has2_mem (l := [(x1, y1), (x2, y2), (x3, y3)]) (x := x2) (y := y2) (by simp) (Sp.addb_no h))))) <| .nil _ _) ?_
  refine aw_fl 15343 ?_
  refine aw_sk ?_
  refine block_normal ?_
  refine then_normal ?_
  refine aw_p1 (
    .a 2 8 <| .nil _ _) ?_
  refine then_normal ?_
  refine al_round ?_
  refine aw_p 239 (
    .a 1 8 <| .nil _ _) ?_
  refine aw_sq 478 479 ?_
  refine aw_tr 956 ?_
  refine aw_sk ?_
  refine then_normal ?_
  refine aw_sq 958 959 ?_
  refine aw_bl 1 1917 ?_
  refine aw_p 3835 (
    .a 4 8 <| .nil _ _) ?_
  refine aw_p 7671 (
    .a 2 9 <| .p (does_e false ((show ((x3 == px) && ((y3 == py) && true)) = false from (Sp.has2_mem (l := [(x1, y1), (x2, y2), (x3, y3)]) (x := x3) (y := y3) (by simp) (Sp.addb_no h))))) <| .nil _ _) ?_
  refine aw_fl 15343 ?_
  refine aw_sk ?_
  refine block_normal ?_
  refine then_normal ?_
  refine aw_p1 (
    .a 2 9 <| .nil _ _) ?_
  refine then_normal ?_
  refine al_round ?_
  refine aw_p 239 (
    .a 1 9 <| .nil _ _) ?_
  refine aw_sq 478 479 ?_
  refine aw_fl 957 ?_
  refine aw_ex 0 ?_
  refine then_exit ?_
  refine then_exit ?_
  refine block_exit ?_
  refine then_normal ?_
  refine aw_p1 (
    .a 3 9 <| .p (does_ap 2) <| .a 1 10 <| .nil _ _) ?_
  exact en_normal [] (by kernel_rfl)
end Go.Proofs.YtndkhgfecnbmnaaGreat.Am
