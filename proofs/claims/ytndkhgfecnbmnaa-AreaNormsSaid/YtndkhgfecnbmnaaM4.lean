import Derived.Test.YtndkhgfecnbmnaaProg
import Derived.Test.YtndkhgfecnbmnaaM2
import Derived.Test.YtndkhgfecnbmnaaM3
import Derived.Shelf.GgSortFunc.InsertionK
import Derived.Laws.IdiomStrings
import Derived.Laws.Runes
import Derived.Laws.DeepStrings4
import Derived.Laws.Concat
import Derived.Lib.LaidTab
import Derived.Lib.AppendIntMem
import Derived.RangeFuncNested
import Derived.RangeFuncCalls
import Derived.RangeFuncLeaves
import Derived.TacticsIn
import Derived.OrdersIn
namespace Go.Proofs.Ytndkhgfecnbmnaa.Am
open Go Go.Proofs
set_option maxRecDepth 100000
set_option maxHeartbeats 4000000
set_option linter.unusedVariables false
set_option linter.unusedSimpArgs false
theorem limit_ok (n m : Int) (h0 : 0 ≤ m) (h1 : m ≤ 4611686018427387904) :
    AC Try.prog 95 0 ([.int .i64 n, .int .i64 m]) [] (.int .i64 (Sp.lim m n)) [] := by
  refine ac_in Try.func95 (fun w0 W pin => ?_)
  refine aw_p 3 (
    .a 1 1 <| .nil _ _) ?_
  refine aw_p 7 (
    .a 1 1 <| .p (does_i (0 - m) (wrap_i64 (by omega) (by omega)) .i64) <| .a 5 1 <| .nil _ _) ?_
  refine aw_rt ?_
  exact en_ret [.int .i64 (if (if m < n then m else n) > (0 - m) then (if m < n then m else n) else (0 - m))] (show (.int .i64 (if (if m < n then m else n) > (0 - m) then (if m < n then m else n) else (0 - m)) : Value) = (.int .i64 (Sp.lim m n)) from (congrArg (Value.int .i64) (show (if (if m < n then m else n) > (0 - m) then (if m < n then m else n) else (0 - m)) = (Sp.lim m n) from by (first | rfl | (simp only [Sp.lim, Sp.cmp, Sp.sgn]; (repeat' split) <;> omega)))))
theorem clamp_ok (x y : Int) :
    AC Try.prog 55 0 ([.agg #[.int .i64 x, .int .i64 y]]) [] (.agg #[.int .i64 (Sp.lim 1048576 x), .int .i64 (Sp.lim 1048576 y)]) [] := by
  refine ac_in Try.func55 (fun w0 W pin => ?_)
  refine aw_p 3 (
    .a 2 1 <| .nil _ _) ?_
  refine aw_d 7 (
    .a 2 3 <| .p (does_c (limit_ok x 1048576 (by decide) (by decide))) <| .a 2 3 <| .p (does_c (limit_ok y 1048576 (by decide) (by decide))) <| .a 2 3 <| .nil _ _) ?_
  refine aw_rt ?_
  exact en_ret [.agg #[.int .i64 (Sp.lim 1048576 x), .int .i64 (Sp.lim 1048576 y)]] (by kernel_rfl)
theorem pok_ok (x y : Int) :
    AC Try.prog 85 0 ([.agg #[.int .i64 x, .int .i64 y]]) [] (.bool ((x == (Sp.lim 1048576 x)) && ((y == (Sp.lim 1048576 y)) && true))) [] := by
  refine ac_in Try.func85 (fun w0 W pin => ?_)
  refine aw_p 3 (
    .a 2 1 <| .nil _ _) ?_
  refine aw_d 7 (
    .a 2 2 <| .p (does_c (clamp_ok x y)) <| .p (does_e ((x == (Sp.lim 1048576 x)) && ((y == (Sp.lim 1048576 y)) && true)) (rfl)) <| .a 1 2 <| .nil _ _) ?_
  refine aw_rt ?_
  exact en_ret [.bool ((x == (Sp.lim 1048576 x)) && ((y == (Sp.lim 1048576 y)) && true))] (by kernel_rfl)
theorem isnan_ok (x : Int) :
    AC Try.prog 120 0 ([.int .i64 x]) [] (.bool false) [] := by
  refine ac_in Try.func120 (fun w0 W pin => ?_)
  refine aw_p 3 (
    .a 1 1 <| .nil _ _) ?_
  refine aw_p 7 (
    .a 2 1 <| .p (does_b false ((show (x != x) = false from by simp))) <| .a 1 1 <| .nil _ _) ?_
  refine aw_rt ?_
  exact en_ret [.bool false] (by kernel_rfl)
theorem compare_ok (x y : Int) :
    AC Try.prog 97 0 ([.int .i64 x, .int .i64 y]) [] (.int .i64 (Sp.cmp x y)) [] := by
  refine ac_in Try.func97 (fun w0 W pin => ?_)
  refine aw_p 3 (
    .a 1 1 <| .nil _ _) ?_
  refine aw_p 7 (
    .a 1 1 <| .p (does_c (isnan_ok x)) <| .a 1 1 <| .nil _ _) ?_
  refine aw_p 15 (
    .a 1 1 <| .p (does_c (isnan_ok y)) <| .a 1 1 <| .nil _ _) ?_
  refine aw_sq 30 31 ?_
  refine aw_p 61 (
    .a 1 1 <| .nil _ _) ?_
  refine aw_fl 123 ?_
  refine aw_sk ?_
  refine then_normal ?_
  refine aw_sq 62 63 ?_
  refine aw_p 125 (
    .a 1 1 <| .nil _ _) ?_
  refine aw_fl 251 ?_
  refine aw_sk ?_
  refine then_normal ?_
  refine aw_sq 126 127 ?_
  refine aw_p 253 (
    .a 3 1 <| .nil _ _) ?_
  refine aw_cd 506 507 (decide (x < y)) (fun h1 => ?_) (fun h1 => ?_)
  · have h1p : ((x < y)) := by first | (simpa using h1) | (have h1q := h1; simp at h1q; omega) | (have h1q := bx1 h1; simp at h1q; omega)
    refine aw_p 1013 (
      .a 1 1 <| .nil _ _) ?_
    refine aw_rt ?_
    refine then_ret ?_
    exact en_ret [.int .i64 (-1)] (show (.int .i64 (-1) : Value) = (.int .i64 (Sp.cmp x y)) from (congrArg (Value.int .i64) (show (-1) = (Sp.cmp x y) from by (simp only [decide_eq_true_eq, decide_eq_false_iff_not] at *; simp only [Sp.lim, Sp.cmp, Sp.sgn]; (repeat' split) <;> omega))))
  · have h1p : ¬ ((x < y)) := by first | (simpa using h1) | (have h1q := h1; simp at h1q; omega) | (have h1q := bx2 h1; simp at h1q; omega)
    refine aw_sk ?_
    refine then_normal ?_
    refine aw_sq 254 255 ?_
    refine aw_p 509 (
      .a 3 1 <| .nil _ _) ?_
    refine aw_cd 1018 1019 (decide (x > y)) (fun h2 => ?_) (fun h2 => ?_)
    · have h2p : ((x > y)) := by first | (simpa using h2) | (have h2q := h2; simp at h2q; omega) | (have h2q := bx1 h2; simp at h2q; omega)
      refine aw_p 2037 (
        .a 1 1 <| .nil _ _) ?_
      refine aw_rt ?_
      refine then_ret ?_
      exact en_ret [.int .i64 1] (show (.int .i64 1 : Value) = (.int .i64 (Sp.cmp x y)) from (congrArg (Value.int .i64) (show 1 = (Sp.cmp x y) from by (simp only [decide_eq_true_eq, decide_eq_false_iff_not] at *; simp only [Sp.lim, Sp.cmp, Sp.sgn]; (repeat' split) <;> omega))))
    · have h2p : ¬ ((x > y)) := by first | (simpa using h2) | (have h2q := h2; simp at h2q; omega) | (have h2q := bx2 h2; simp at h2q; omega)
      refine aw_sk ?_
      refine then_normal ?_
      refine aw_p 511 (
        .a 1 1 <| .nil _ _) ?_
      refine aw_rt ?_
      exact en_ret [.int .i64 0] (show (.int .i64 0 : Value) = (.int .i64 (Sp.cmp x y)) from (congrArg (Value.int .i64) (show 0 = (Sp.cmp x y) from by (simp only [decide_eq_true_eq, decide_eq_false_iff_not] at *; simp only [Sp.lim, Sp.cmp, Sp.sgn]; (repeat' split) <;> omega))))
theorem below_ok (x n : Int) (h0 : 0 < n) (hz : n ≤ 9223372036854775807) :
    AC Try.prog 44 0 ([.int .i64 x, .int .i64 n]) [] (.int .i64 (x % n)) [] := by
  have hlo := Sp.tmod_lo (x := x) h0
  refine ac_in Try.func44 (fun w0 W pin => ?_)
  refine aw_p 3 (
    .a 1 1 <| .nil _ _) ?_
  refine aw_p 7 (
    .a 2 1 <| .p (does_rem (t := 3) (t2 := 3) (x := .tmp 5) (y := .tmp 6) (k := .i64) (a := x) (b := n) (by kernel_rfl) (by kernel_rfl) (by kernel_rfl) (by omega)) <| .a 1 1 <| .nil _ _) ?_
  refine aw_sq 14 15 ?_
  refine aw_p 29 (
    .a 2 1 <| .nil _ _) ?_
  refine aw_cd 58 59 (decide ((Int.tmod x n) < 0)) (fun h1 => ?_) (fun h1 => ?_)
  · have h1p : (((Int.tmod x n) < 0)) := by first | (simpa using h1) | (have h1q := h1; simp at h1q; omega) | (have h1q := bx1 h1; simp at h1q; omega)
    refine aw_p1 (
      .a 2 1 <| .p (does_i ((Int.tmod x n) + n) (wrap_i64 (by omega) (by omega)) .i64) <| .a 1 1 <| .nil _ _) ?_
    refine then_normal ?_
    refine aw_p 31 (
      .a 2 1 <| .nil _ _) ?_
    refine aw_rt ?_
    exact en_ret [.int .i64 ((Int.tmod x n) + n)] (show (.int .i64 ((Int.tmod x n) + n) : Value) = (.int .i64 (x % n)) from (congrArg (Value.int .i64) (show ((Int.tmod x n) + n) = (x % n) from by (first | exact Sp.below_neg h0 (by assumption) | exact Sp.below_pos h0 (by omega)))))
  · have h1p : ¬ (((Int.tmod x n) < 0)) := by first | (simpa using h1) | (have h1q := h1; simp at h1q; omega) | (have h1q := bx2 h1; simp at h1q; omega)
    refine aw_sk ?_
    refine then_normal ?_
    refine aw_p 31 (
      .a 2 1 <| .nil _ _) ?_
    refine aw_rt ?_
    exact en_ret [.int .i64 (Int.tmod x n)] (show (.int .i64 (Int.tmod x n) : Value) = (.int .i64 (x % n)) from (congrArg (Value.int .i64) (show (Int.tmod x n) = (x % n) from by (first | exact Sp.below_neg h0 (by assumption) | exact Sp.below_pos h0 (by omega)))))
theorem way_ok (ax ay bx b_y : Int) :
    AC Try.prog 118 0 ([.agg #[.int .i64 ax, .int .i64 ay], .agg #[.int .i64 bx, .int .i64 b_y]]) [] (.agg #[.int .i64 (Sp.lim 1048576 bx - Sp.lim 1048576 ax), .int .i64 (Sp.lim 1048576 b_y - Sp.lim 1048576 ay)]) [] := by
  have q1 := Sp.lim_bd (m := 1048576) (by decide) ax; have q2 := Sp.lim_bd (m := 1048576) (by decide) ay; have q3 := Sp.lim_bd (m := 1048576) (by decide) bx; have q4 := Sp.lim_bd (m := 1048576) (by decide) b_y
  refine ac_in Try.func118 (fun w0 W pin => ?_)
  refine aw_p 3 (
    .a 3 1 <| .nil _ _) ?_
  refine aw_d 7 (
    .a 1 4 <| .p (does_c (clamp_ok ax ay)) <| .a 1 4 <| .p (does_c (clamp_ok bx b_y)) <| .a 2 4 <| .nil _ _) ?_
  refine aw_p 15 (
    .a 4 4 <| .p (does_i ((Sp.lim 1048576 bx) - (Sp.lim 1048576 ax)) (wrap_i64 (by omega) (by omega)) .i64) <| .a 4 4 <| .p (does_i ((Sp.lim 1048576 b_y) - (Sp.lim 1048576 ay)) (wrap_i64 (by omega) (by omega)) .i64) <| .a 2 4 <| .nil _ _) ?_
  refine aw_rt ?_
  exact en_ret [.agg #[.int .i64 ((Sp.lim 1048576 bx) - (Sp.lim 1048576 ax)), .int .i64 ((Sp.lim 1048576 b_y) - (Sp.lim 1048576 ay))]] (show (.agg #[.int .i64 ((Sp.lim 1048576 bx) - (Sp.lim 1048576 ax)), .int .i64 ((Sp.lim 1048576 b_y) - (Sp.lim 1048576 ay))] : Value) = (.agg #[.int .i64 (Sp.lim 1048576 bx - Sp.lim 1048576 ax), .int .i64 (Sp.lim 1048576 b_y - Sp.lim 1048576 ay)]) from (congrArg (fun z : List Value => Value.agg z.toArray) (lcons (congrArg (Value.int .i64) (show ((Sp.lim 1048576 bx) - (Sp.lim 1048576 ax)) = (Sp.lim 1048576 bx - Sp.lim 1048576 ax) from by rfl)) (lcons (congrArg (Value.int .i64) (show ((Sp.lim 1048576 b_y) - (Sp.lim 1048576 ay)) = (Sp.lim 1048576 b_y - Sp.lim 1048576 ay) from by rfl)) rfl))))
theorem cross_ok (ax ay bx b_y cx cy : Int) :
    AC Try.prog 87 0 ([.agg #[.int .i64 ax, .int .i64 ay], .agg #[.int .i64 bx, .int .i64 b_y], .agg #[.int .i64 cx, .int .i64 cy]]) [] (.int .i64 (Sp.crs (Sp.lim 1048576 ax) (Sp.lim 1048576 ay) (Sp.lim 1048576 bx) (Sp.lim 1048576 b_y) (Sp.lim 1048576 cx) (Sp.lim 1048576 cy))) [] := by
  have qax := Sp.lim_bd (m := 1048576) (by decide) ax; have qay := Sp.lim_bd (m := 1048576) (by decide) ay; have qbx := Sp.lim_bd (m := 1048576) (by decide) bx; have qb_y := Sp.lim_bd (m := 1048576) (by decide) b_y; have qcx := Sp.lim_bd (m := 1048576) (by decide) cx; have qcy := Sp.lim_bd (m := 1048576) (by decide) cy; have p0 := Sp.mul_bd (a := Sp.lim 1048576 bx - Sp.lim 1048576 ax) (b := Sp.lim 1048576 cy - Sp.lim 1048576 ay) (A := 2097152) (B := 2097152) (by omega) (by omega) (by omega) (by omega); have p1 := Sp.mul_bd (a := Sp.lim 1048576 b_y - Sp.lim 1048576 ay) (b := Sp.lim 1048576 cx - Sp.lim 1048576 ax) (A := 2097152) (B := 2097152) (by omega) (by omega) (by omega) (by omega)
  refine ac_in Try.func87 (fun w0 W pin => ?_)
  refine aw_p 3 (
    .a 4 1 <| .nil _ _) ?_
  refine aw_d 7 (
    .a 2 4 <| .p (does_c (way_ok ax ay bx b_y)) <| .a 2 4 <| .p (does_c (way_ok ax ay cx cy)) <| .a 4 4 <| .nil _ _) ?_
  refine aw_p 15 (
    .a 4 6 <| .p (does_i ((Sp.lim 1048576 bx - Sp.lim 1048576 ax) * (Sp.lim 1048576 cy - Sp.lim 1048576 ay)) (wrap_i64 (by omega) (by omega)) .i64) <| .a 4 6 <| .p (does_i ((Sp.lim 1048576 b_y - Sp.lim 1048576 ay) * (Sp.lim 1048576 cx - Sp.lim 1048576 ax)) (wrap_i64 (by omega) (by omega)) .i64) <|
    .p (does_i (((Sp.lim 1048576 bx - Sp.lim 1048576 ax) * (Sp.lim 1048576 cy - Sp.lim 1048576 ay)) - ((Sp.lim 1048576 b_y - Sp.lim 1048576 ay) * (Sp.lim 1048576 cx - Sp.lim 1048576 ax))) (wrap_i64 (by omega) (by omega)) .i64) <| .a 1 6 <| .nil _ _) ?_
  refine aw_w [(6, .int .i64 (((Sp.lim 1048576 bx - Sp.lim 1048576 ax) * (Sp.lim 1048576 cy - Sp.lim 1048576 ay)) - ((Sp.lim 1048576 b_y - Sp.lim 1048576 ay) * (Sp.lim 1048576 cx - Sp.lim 1048576 ax))))] [] ?_
  refine aw_rt ?_
  exact en_ret [.int .i64 (((Sp.lim 1048576 bx - Sp.lim 1048576 ax) * (Sp.lim 1048576 cy - Sp.lim 1048576 ay)) - ((Sp.lim 1048576 b_y - Sp.lim 1048576 ay) * (Sp.lim 1048576 cx - Sp.lim 1048576 ax)))] (show (.int .i64 (((Sp.lim 1048576 bx - Sp.lim 1048576 ax) * (Sp.lim 1048576 cy - Sp.lim 1048576 ay)) - ((Sp.lim 1048576 b_y - Sp.lim 1048576 ay) * (Sp.lim 1048576 cx - Sp.lim 1048576 ax))) : Value) = (.int .i64 (Sp.crs (Sp.lim 1048576 ax) (Sp.lim 1048576 ay) (Sp.lim 1048576 bx) (Sp.lim 1048576 b_y) (Sp.lim 1048576 cx) (Sp.lim 1048576 cy))) from (congrArg (Value.int .i64) (show (((Sp.lim 1048576 bx - Sp.lim 1048576 ax) * (Sp.lim 1048576 cy - Sp.lim 1048576 ay)) - ((Sp.lim 1048576 b_y - Sp.lim 1048576 ay) * (Sp.lim 1048576 cx - Sp.lim 1048576 ax))) = (Sp.crs (Sp.lim 1048576 ax) (Sp.lim 1048576 ay) (Sp.lim 1048576 bx) (Sp.lim 1048576 b_y) (Sp.lim 1048576 cx) (Sp.lim 1048576 cy)) from by rfl)))
theorem dot_ok (ax ay bx b_y cx cy : Int) :
    AC Try.prog 96 0 ([.agg #[.int .i64 ax, .int .i64 ay], .agg #[.int .i64 bx, .int .i64 b_y], .agg #[.int .i64 cx, .int .i64 cy]]) [] (.int .i64 (Sp.dot (Sp.lim 1048576 ax) (Sp.lim 1048576 ay) (Sp.lim 1048576 bx) (Sp.lim 1048576 b_y) (Sp.lim 1048576 cx) (Sp.lim 1048576 cy))) [] := by
  have qax := Sp.lim_bd (m := 1048576) (by decide) ax; have qay := Sp.lim_bd (m := 1048576) (by decide) ay; have qbx := Sp.lim_bd (m := 1048576) (by decide) bx; have qb_y := Sp.lim_bd (m := 1048576) (by decide) b_y; have qcx := Sp.lim_bd (m := 1048576) (by decide) cx; have qcy := Sp.lim_bd (m := 1048576) (by decide) cy; have p0 := Sp.mul_bd (a := Sp.lim 1048576 bx - Sp.lim 1048576 ax) (b := Sp.lim 1048576 cx - Sp.lim 1048576 ax) (A := 2097152) (B := 2097152) (by omega) (by omega) (by omega) (by omega); have p1 := Sp.mul_bd (a := Sp.lim 1048576 b_y - Sp.lim 1048576 ay) (b := Sp.lim 1048576 cy - Sp.lim 1048576 ay) (A := 2097152) (B := 2097152) (by omega) (by omega) (by omega) (by omega)
  refine ac_in Try.func96 (fun w0 W pin => ?_)
  refine aw_p 3 (
    .a 4 1 <| .nil _ _) ?_
  refine aw_d 7 (
    .a 2 4 <| .p (does_c (way_ok ax ay bx b_y)) <| .a 2 4 <| .p (does_c (way_ok ax ay cx cy)) <| .a 4 4 <| .nil _ _) ?_
  refine aw_p 15 (
    .a 4 6 <| .p (does_i ((Sp.lim 1048576 bx - Sp.lim 1048576 ax) * (Sp.lim 1048576 cx - Sp.lim 1048576 ax)) (wrap_i64 (by omega) (by omega)) .i64) <| .a 4 6 <| .p (does_i ((Sp.lim 1048576 b_y - Sp.lim 1048576 ay) * (Sp.lim 1048576 cy - Sp.lim 1048576 ay)) (wrap_i64 (by omega) (by omega)) .i64) <|
    .p (does_i (((Sp.lim 1048576 bx - Sp.lim 1048576 ax) * (Sp.lim 1048576 cx - Sp.lim 1048576 ax)) + ((Sp.lim 1048576 b_y - Sp.lim 1048576 ay) * (Sp.lim 1048576 cy - Sp.lim 1048576 ay))) (wrap_i64 (by omega) (by omega)) .i64) <| .a 1 6 <| .nil _ _) ?_
  refine aw_w [(6, .int .i64 (((Sp.lim 1048576 bx - Sp.lim 1048576 ax) * (Sp.lim 1048576 cx - Sp.lim 1048576 ax)) + ((Sp.lim 1048576 b_y - Sp.lim 1048576 ay) * (Sp.lim 1048576 cy - Sp.lim 1048576 ay))))] [] ?_
  refine aw_rt ?_
  exact en_ret [.int .i64 (((Sp.lim 1048576 bx - Sp.lim 1048576 ax) * (Sp.lim 1048576 cx - Sp.lim 1048576 ax)) + ((Sp.lim 1048576 b_y - Sp.lim 1048576 ay) * (Sp.lim 1048576 cy - Sp.lim 1048576 ay)))] (show (.int .i64 (((Sp.lim 1048576 bx - Sp.lim 1048576 ax) * (Sp.lim 1048576 cx - Sp.lim 1048576 ax)) + ((Sp.lim 1048576 b_y - Sp.lim 1048576 ay) * (Sp.lim 1048576 cy - Sp.lim 1048576 ay))) : Value) = (.int .i64 (Sp.dot (Sp.lim 1048576 ax) (Sp.lim 1048576 ay) (Sp.lim 1048576 bx) (Sp.lim 1048576 b_y) (Sp.lim 1048576 cx) (Sp.lim 1048576 cy))) from (congrArg (Value.int .i64) (show (((Sp.lim 1048576 bx - Sp.lim 1048576 ax) * (Sp.lim 1048576 cx - Sp.lim 1048576 ax)) + ((Sp.lim 1048576 b_y - Sp.lim 1048576 ay) * (Sp.lim 1048576 cy - Sp.lim 1048576 ay))) = (Sp.dot (Sp.lim 1048576 ax) (Sp.lim 1048576 ay) (Sp.lim 1048576 bx) (Sp.lim 1048576 b_y) (Sp.lim 1048576 cx) (Sp.lim 1048576 cy)) from by rfl)))
theorem turn_ok (ax ay bx b_y cx cy : Int) :
    AC Try.prog 57 0 ([.agg #[.int .i64 ax, .int .i64 ay], .agg #[.int .i64 bx, .int .i64 b_y], .agg #[.int .i64 cx, .int .i64 cy]]) [] (.int .i64 (Sp.cmp (Sp.crs (Sp.lim 1048576 ax) (Sp.lim 1048576 ay) (Sp.lim 1048576 bx) (Sp.lim 1048576 b_y) (Sp.lim 1048576 cx) (Sp.lim 1048576 cy)) 0)) [] := by
  refine ac_in Try.func57 (fun w0 W pin => ?_)
  refine aw_p 3 (
    .a 4 1 <| .nil _ _) ?_
  refine aw_p 7 (
    .a 3 4 <| .p (does_c (cross_ok ax ay bx b_y cx cy)) <| .p (does_c (compare_ok (Sp.crs (Sp.lim 1048576 ax) (Sp.lim 1048576 ay) (Sp.lim 1048576 bx) (Sp.lim 1048576 b_y) (Sp.lim 1048576 cx) (Sp.lim 1048576 cy)) 0)) <| .a 1 4 <| .nil _ _) ?_
  refine aw_rt ?_
  exact en_ret [.int .i64 (Sp.cmp (Sp.crs (Sp.lim 1048576 ax) (Sp.lim 1048576 ay) (Sp.lim 1048576 bx) (Sp.lim 1048576 b_y) (Sp.lim 1048576 cx) (Sp.lim 1048576 cy)) 0)] (by kernel_rfl)
theorem on_ok (ax ay bx b_y px py : Int) :
    AC Try.prog 56 0 ([.agg #[.int .i64 ax, .int .i64 ay], .agg #[.int .i64 bx, .int .i64 b_y], .agg #[.int .i64 px, .int .i64 py]]) [] (.bool (Sp.onb (Sp.lim 1048576 ax) (Sp.lim 1048576 ay) (Sp.lim 1048576 bx) (Sp.lim 1048576 b_y) (Sp.lim 1048576 px) (Sp.lim 1048576 py))) [] := by
  refine ac_in Try.func56 (fun w0 W pin => ?_)
  refine aw_p 3 (
    .a 4 1 <| .nil _ _) ?_
  rcases Bool.eq_false_or_eq_true ((Sp.cmp (Sp.crs (Sp.lim 1048576 ax) (Sp.lim 1048576 ay) (Sp.lim 1048576 bx) (Sp.lim 1048576 b_y) (Sp.lim 1048576 px) (Sp.lim 1048576 py)) 0) == 0) with h1 | h1
  · have h1p : (((Sp.cmp (Sp.crs (Sp.lim 1048576 ax) (Sp.lim 1048576 ay) (Sp.lim 1048576 bx) (Sp.lim 1048576 b_y) (Sp.lim 1048576 px) (Sp.lim 1048576 py)) 0) = 0)) := by first | (simpa using h1) | (have h1q := h1; simp at h1q; omega) | (have h1q := bx1 h1; simp at h1q; omega)
    refine aw_p 7 (
      .a 3 4 <| .p (does_c (turn_ok ax ay bx b_y px py)) <| .p (does_b true (h1)) <| .a 4 4 <| .p (does_c (dot_ok px py ax ay bx b_y)) <| .a 3 4 <| .nil _ _) ?_
    refine aw_rt ?_
    exact en_ret [.bool (decide ((Sp.dot (Sp.lim 1048576 px) (Sp.lim 1048576 py) (Sp.lim 1048576 ax) (Sp.lim 1048576 ay) (Sp.lim 1048576 bx) (Sp.lim 1048576 b_y)) ≤ 0))] (show (.bool (decide ((Sp.dot (Sp.lim 1048576 px) (Sp.lim 1048576 py) (Sp.lim 1048576 ax) (Sp.lim 1048576 ay) (Sp.lim 1048576 bx) (Sp.lim 1048576 b_y)) ≤ 0)) : Value) = (.bool (Sp.onb (Sp.lim 1048576 ax) (Sp.lim 1048576 ay) (Sp.lim 1048576 bx) (Sp.lim 1048576 b_y) (Sp.lim 1048576 px) (Sp.lim 1048576 py))) from (congrArg Value.bool (show (decide ((Sp.dot (Sp.lim 1048576 px) (Sp.lim 1048576 py) (Sp.lim 1048576 ax) (Sp.lim 1048576 ay) (Sp.lim 1048576 bx) (Sp.lim 1048576 b_y)) ≤ 0)) = (Sp.onb (Sp.lim 1048576 ax) (Sp.lim 1048576 ay) (Sp.lim 1048576 bx) (Sp.lim 1048576 b_y) (Sp.lim 1048576 px) (Sp.lim 1048576 py)) from by (simp [Sp.onb, *]))))
  · have h1p : ¬ (((Sp.cmp (Sp.crs (Sp.lim 1048576 ax) (Sp.lim 1048576 ay) (Sp.lim 1048576 bx) (Sp.lim 1048576 b_y) (Sp.lim 1048576 px) (Sp.lim 1048576 py)) 0) = 0)) := by first | (simpa using h1) | (have h1q := h1; simp at h1q; omega) | (have h1q := bx2 h1; simp at h1q; omega)
    refine aw_p 7 (
      .a 3 4 <| .p (does_c (turn_ok ax ay bx b_y px py)) <| .p (does_b false (h1)) <| .a 8 4 <| .nil _ _) ?_
    refine aw_rt ?_
    exact en_ret [.bool false] (show (.bool false : Value) = (.bool (Sp.onb (Sp.lim 1048576 ax) (Sp.lim 1048576 ay) (Sp.lim 1048576 bx) (Sp.lim 1048576 b_y) (Sp.lim 1048576 px) (Sp.lim 1048576 py))) from (congrArg Value.bool (show false = (Sp.onb (Sp.lim 1048576 ax) (Sp.lim 1048576 ay) (Sp.lim 1048576 bx) (Sp.lim 1048576 b_y) (Sp.lim 1048576 px) (Sp.lim 1048576 py)) from by (simp [Sp.onb, *]))))
theorem pcmp_ok (ax ay bx b_y : Int) :
    AC Try.prog 68 0 ([.agg #[.int .i64 ax, .int .i64 ay], .agg #[.int .i64 bx, .int .i64 b_y]]) [] (.int .i64 (Sp.pcmp ax ay bx b_y)) [] := by
  refine ac_in Try.func68 (fun w0 W pin => ?_)
  refine aw_p 3 (
    .a 3 1 <| .nil _ _) ?_
  refine aw_sq 6 7 ?_
  refine aw_p 13 (
    .a 4 3 <| .p (does_c (compare_ok ax bx)) <| .a 1 3 <| .nil _ _) ?_
  refine aw_p 27 (
    .a 2 3 <| .nil _ _) ?_
  refine aw_cd 54 55 ((Sp.cmp ax bx) != 0) (fun h1 => ?_) (fun h1 => ?_)
  · have h1p : (¬ ((Sp.cmp ax bx) = 0)) := by first | (simpa using h1) | (have h1q := h1; simp at h1q; omega) | (have h1q := bx1 h1; simp at h1q; omega)
    refine aw_p 109 (
      .a 2 3 <| .nil _ _) ?_
    refine aw_rt ?_
    refine then_ret ?_
    exact en_ret [.int .i64 (Sp.cmp ax bx)] (show (.int .i64 (Sp.cmp ax bx) : Value) = (.int .i64 (Sp.pcmp ax ay bx b_y)) from (congrArg (Value.int .i64) (show (Sp.cmp ax bx) = (Sp.pcmp ax ay bx b_y) from by (simp [Sp.pcmp, *]))))
  · have h1p : ¬ (¬ ((Sp.cmp ax bx) = 0)) := by first | (simpa using h1) | (have h1q := h1; simp at h1q; omega) | (have h1q := bx2 h1; simp at h1q; omega)
    refine aw_sk ?_
    refine then_normal ?_
    refine aw_p 15 (
      .a 4 3 <| .p (does_c (compare_ok ay b_y)) <| .a 1 3 <| .nil _ _) ?_
    refine aw_rt ?_
    exact en_ret [.int .i64 (Sp.cmp ay b_y)] (show (.int .i64 (Sp.cmp ay b_y) : Value) = (.int .i64 (Sp.pcmp ax ay bx b_y)) from (congrArg (Value.int .i64) (show (Sp.cmp ay b_y) = (Sp.pcmp ax ay bx b_y) from by (simp [Sp.pcmp, *]))))
theorem terrkeep1_at_ok (x y : Int) :
    AC Try.prog 49 0 ([.int .i64 x, .int .i64 y]) [] (.agg #[.int .i64 x, .int .i64 y]) [] := by
  refine ac_in Try.func49 (fun w0 W pin => ?_)
  refine aw_p 3 (
    .a 1 1 <| .nil _ _) ?_
  refine aw_p 7 (
    .a 4 2 <| .nil _ _) ?_
  refine aw_rt ?_
  exact en_ret [.agg #[.int .i64 x, .int .i64 y]] (by kernel_rfl)
theorem next_own (xs : List Int) (p : Nat) (n : Int) (hp : p < xs.length) (h0 : 0 < n) (hz : n ≤ 9223372036854775807) :
    AC Try.prog 51 2 ([.pointer (some ⟨0, 0, none⟩), .int .i64 n]) [(0, ⟨[.slice (some ⟨1, p, none⟩) (xs.length - p) 0], 71, true, 1⟩), (1, ⟨(xs.map i64v), 3, true, 1⟩)] (.int .i64 (xs.getD p 0 % n)) [(0, ⟨[.slice (some ⟨1, (p + 1), none⟩) (xs.length - p - 1) 0], 71, true, 1⟩), (1, ⟨(xs.map i64v), 3, true, 1⟩)] := by
  refine ac_in Try.func51 (fun w0 W pin => ?_)
  refine aw_p 3 (
    .a 1 2 <| .nil _ _) ?_
  refine aw_sq 6 7 ?_
  refine aw_p 13 (
    .a 5 2 <| .p (does_b false ((show ((((xs.length - p) : Nat) : Int) == 0) = false from by rw [beq_eq_false_iff_ne]; omega))) <| .a 2 2 <| .p (does_b false ((show (decide (n < 1)) = false from decide_eq_false (by omega)))) <| .a 1 2 <| .nil _ _) ?_
  refine aw_fl 27 ?_
  refine aw_sk ?_
  refine then_normal ?_
  refine aw_p 15 (
    .a 4 2 <| .p (does_indexSlice (t := 22) (x := .tmp 19) (y := .const (.int .i64 0)) (k := 1) (off := p) (n := (xs.length - p)) (c := 0) (z := 1) (kd := .i64) (j := 0) (by kernel_rfl) (by kernel_rfl) (by kernel_rfl) (by kernel_rfl) (by kernel_rfl) (by omega) (by omega)) <|
    .p (does_load (t := 3) (x := .tmp 20) (k := 1) (off := p + 0 * 1) (b := ⟨(xs.map i64v), 3, true, 1⟩) (v := .int .i64 (xs.getD p 0)) (by kernel_rfl) (by kernel_rfl) (by kernel_rfl) (ldV_map (f := i64v) (j := p) 0 (by kernel_rfl) (by kernel_rfl) hp)) <| .a 1 2 <| .nil _ _) ?_
  refine aw_p 31 (
    .a 5 2 <|
    .p (does_val (v' := .slice (some ⟨1, (p + 1), none⟩) ((xs.length - p) - 1) 0) (does_slice (t := 22) (x := .tmp 26) (lo := some (.const (.int .i64 1))) (hi := none) (k := 1) (off := p) (n := (xs.length - p)) (c := 0) (z := 1) (l := 1) (h := (((xs.length - p) : Nat) : Int)) (m := ((xs.length - p) - 1)) (b := ⟨(xs.map i64v), 3, true, 1⟩) (by kernel_rfl) (by kernel_rfl) (by kernel_rfl) (by kernel_rfl) (by kernel_rfl) (by kernel_rfl) (by kernel_rfl) (by kernel_rfl) (by omega) (by omega) (by omega) (by omega)) (by kernel_rfl)) <|
    .a 3 2 <| .nil _ _) ?_
  refine aw_w [(1, .int .i64 n), (4, .int .i64 0), (5, .int .i64 (xs.getD p 0))] [(0, ⟨[.slice (some ⟨1, (p + 1), none⟩) ((xs.length - p) - 1) 0], 71, true, 1⟩), (1, ⟨(xs.map i64v), 3, true, 1⟩)] ?_ (hc := (by simp [closedB, valsB, valB, flats_map, List.all_eq_true, i64v, flat1]; try decide))
  refine aw_p 63 (
    .a 2 2 <| .p (does_c (below_ok (xs.getD p 0) n (by omega) (by omega))) <| .a 1 2 <| .nil _ _) ?_
  refine aw_rt ?_
  exact en_ret [.int .i64 ((xs.getD p 0) % n)] (show (.int .i64 ((xs.getD p 0) % n) : Value) = (.int .i64 (xs.getD p 0 % n)) from (congrArg (Value.int .i64) (show ((xs.getD p 0) % n) = (xs.getD p 0 % n) from by rfl)))
theorem next0_own (xs : List Int) (p : Nat) (n : Int) (hp : ¬ p < xs.length) :
    AC Try.prog 51 2 ([.pointer (some ⟨0, 0, none⟩), .int .i64 n]) [(0, ⟨[.slice (some ⟨1, p, none⟩) (xs.length - p) 0], 71, true, 1⟩), (1, ⟨(xs.map i64v), 3, true, 1⟩)] (.int .i64 0) [(0, ⟨[.slice (some ⟨1, p, none⟩) (xs.length - p) 0], 71, true, 1⟩), (1, ⟨(xs.map i64v), 3, true, 1⟩)] := by
  refine ac_in Try.func51 (fun w0 W pin => ?_)
  refine aw_p 3 (
    .a 1 2 <| .nil _ _) ?_
  refine aw_sq 6 7 ?_
  refine aw_p 13 (
    .a 5 2 <| .p (does_b true ((show ((((xs.length - p) : Nat) : Int) == 0) = true from by rw [beq_iff_eq]; omega))) <| .a 4 2 <| .nil _ _) ?_
  refine aw_tr 26 ?_
  refine aw_p 53 (
    .a 1 2 <| .nil _ _) ?_
  refine aw_rt ?_
  refine then_ret ?_
  exact en_ret [.int .i64 0] (by kernel_rfl)
theorem next_ro (xs : List Int) (p : Nat) (n : Int) (hp : p < xs.length) (h0 : 0 < n) (hz : n ≤ 9223372036854775807) :
    AC Try.prog 51 2 ([.pointer (some ⟨0, 0, none⟩), .int .i64 n]) [(0, ⟨[.slice (some ⟨1, p, none⟩) (xs.length - p) 0], 71, true, 1⟩), (1, ⟨(xs.map i64v), 3, false, 1⟩)] (.int .i64 (xs.getD p 0 % n)) [(0, ⟨[.slice (some ⟨1, (p + 1), none⟩) (xs.length - p - 1) 0], 71, true, 1⟩)] := by
  refine ac_in Try.func51 (fun w0 W pin => ?_)
  refine aw_p 3 (
    .a 1 2 <| .nil _ _) ?_
  refine aw_sq 6 7 ?_
  refine aw_p 13 (
    .a 5 2 <| .p (does_b false ((show ((((xs.length - p) : Nat) : Int) == 0) = false from by rw [beq_eq_false_iff_ne]; omega))) <| .a 2 2 <| .p (does_b false ((show (decide (n < 1)) = false from decide_eq_false (by omega)))) <| .a 1 2 <| .nil _ _) ?_
  refine aw_fl 27 ?_
  refine aw_sk ?_
  refine then_normal ?_
  refine aw_p 15 (
    .a 4 2 <| .p (does_indexSlice (t := 22) (x := .tmp 19) (y := .const (.int .i64 0)) (k := 1) (off := p) (n := (xs.length - p)) (c := 0) (z := 1) (kd := .i64) (j := 0) (by kernel_rfl) (by kernel_rfl) (by kernel_rfl) (by kernel_rfl) (by kernel_rfl) (by omega) (by omega)) <|
    .p (does_load (t := 3) (x := .tmp 20) (k := 1) (off := p + 0 * 1) (b := ⟨(xs.map i64v), 3, false, 1⟩) (v := .int .i64 (xs.getD p 0)) (by kernel_rfl) (by kernel_rfl) (by kernel_rfl) (ldV_map (f := i64v) (j := p) 0 (by kernel_rfl) (by kernel_rfl) hp)) <| .a 1 2 <| .nil _ _) ?_
  refine aw_p 31 (
    .a 5 2 <|
    .p (does_val (v' := .slice (some ⟨1, (p + 1), none⟩) ((xs.length - p) - 1) 0) (does_slice (t := 22) (x := .tmp 26) (lo := some (.const (.int .i64 1))) (hi := none) (k := 1) (off := p) (n := (xs.length - p)) (c := 0) (z := 1) (l := 1) (h := (((xs.length - p) : Nat) : Int)) (m := ((xs.length - p) - 1)) (b := ⟨(xs.map i64v), 3, false, 1⟩) (by kernel_rfl) (by kernel_rfl) (by kernel_rfl) (by kernel_rfl) (by kernel_rfl) (by kernel_rfl) (by kernel_rfl) (by kernel_rfl) (by omega) (by omega) (by omega) (by omega)) (by kernel_rfl)) <|
    .a 3 2 <| .nil _ _) ?_
  refine aw_w [(1, .int .i64 n), (4, .int .i64 0), (5, .int .i64 (xs.getD p 0))] [(0, ⟨[.slice (some ⟨1, (p + 1), none⟩) ((xs.length - p) - 1) 0], 71, true, 1⟩), (1, ⟨(xs.map i64v), 3, false, 1⟩)] ?_ (hc := (by simp [closedB, valsB, valB, flats_map, List.all_eq_true, i64v, flat1]; try decide))
  refine aw_p 63 (
    .a 2 2 <| .p (does_c (below_ok (xs.getD p 0) n (by omega) (by omega))) <| .a 1 2 <| .nil _ _) ?_
  refine aw_rt ?_
  exact en_ret [.int .i64 ((xs.getD p 0) % n)] (show (.int .i64 ((xs.getD p 0) % n) : Value) = (.int .i64 (xs.getD p 0 % n)) from (congrArg (Value.int .i64) (show ((xs.getD p 0) % n) = (xs.getD p 0 % n) from by rfl)))
theorem next0_ro (xs : List Int) (p : Nat) (n : Int) (hp : ¬ p < xs.length) :
    AC Try.prog 51 2 ([.pointer (some ⟨0, 0, none⟩), .int .i64 n]) [(0, ⟨[.slice (some ⟨1, p, none⟩) (xs.length - p) 0], 71, true, 1⟩), (1, ⟨(xs.map i64v), 3, false, 1⟩)] (.int .i64 0) [(0, ⟨[.slice (some ⟨1, p, none⟩) (xs.length - p) 0], 71, true, 1⟩)] := by
  refine ac_in Try.func51 (fun w0 W pin => ?_)
  refine aw_p 3 (
    .a 1 2 <| .nil _ _) ?_
  refine aw_sq 6 7 ?_
  refine aw_p 13 (
    .a 5 2 <| .p (does_b true ((show ((((xs.length - p) : Nat) : Int) == 0) = true from by rw [beq_iff_eq]; omega))) <| .a 4 2 <| .nil _ _) ?_
  refine aw_tr 26 ?_
  refine aw_p 53 (
    .a 1 2 <| .nil _ _) ?_
  refine aw_rt ?_
  refine then_ret ?_
  exact en_ret [.int .i64 0] (by kernel_rfl)
theorem spoint_ok (x y : Int) :
    AC Try.prog 94 2 ([.pointer (some ⟨0, 0, none⟩)]) [(0, ⟨[sV 1 2], 71, true, 1⟩), (1, ⟨[.int .i64 x, .int .i64 y], 3, true, 1⟩)] (.agg #[.int .i64 (x % 81 - 40), .int .i64 (y % 81 - 40)]) [(0, ⟨[.slice (some ⟨1, 2, none⟩) 0 0], 71, true, 1⟩), (1, ⟨[.int .i64 x, .int .i64 y], 3, true, 1⟩)] := by
  have q1 := Sp.emod_bd x (n := 81) (by decide); have q2 := Sp.emod_bd y (n := 81) (by decide)
  refine ac_in Try.func94 (fun w0 W pin => ?_)
  refine aw_p 3 (
    .a 1 2 <| .nil _ _) ?_
  refine aw_p 7 (
    .a 1 3 <|
    .p (cF #[.tmp 3, .const (.int .i64 81)] #[69, 3] [.pointer (some ⟨0, 0, none⟩), .int .i64 81] 0 [0, 1] [(0, ⟨[sV 1 2], 71, true, 1⟩), (1, ⟨[.int .i64 x, .int .i64 y], 3, true, 1⟩)] [(0, ⟨[.slice (some ⟨1, 1, none⟩) 1 0], 71, true, 1⟩), (1, ⟨[.int .i64 x, .int .i64 y], 3, true, 1⟩)] (.int .i64 (x % 81)) (next_own ([x, y]) 0 81 (by simp) (by decide) (by decide)) (.cons (.ptr _ _ (by decide)) (.cons rF .nil)) ⟨rfl, ⟨rfl, rfl, rfl, (.cons rS .nil)⟩, rfl, ⟨rfl, rfl, rfl, (.flats (flats_map (fun _ => rfl) _))⟩, trivial⟩ ⟨rfl, ⟨rfl, rfl, rfl, (.cons rS .nil)⟩, rfl, ⟨rfl, rfl, rfl, (.flats (flats_map (fun _ => rfl) _))⟩, trivial⟩ rF) <|
    .p (does_i ((x % 81) - 40) (wrap_i64 (by omega) (by omega)) .i64) <| .a 1 3 <|
    .p (cF #[.tmp 6, .const (.int .i64 81)] #[69, 3] [.pointer (some ⟨0, 0, none⟩), .int .i64 81] 0 [0, 1] [(0, ⟨[.slice (some ⟨1, 1, none⟩) 1 0], 71, true, 1⟩), (1, ⟨[.int .i64 x, .int .i64 y], 3, true, 1⟩)] [(0, ⟨[.slice (some ⟨1, 2, none⟩) 0 0], 71, true, 1⟩), (1, ⟨[.int .i64 x, .int .i64 y], 3, true, 1⟩)] (.int .i64 (y % 81)) (next_own ([x, y]) 1 81 (by simp) (by decide) (by decide)) (.cons (.ptr _ _ (by decide)) (.cons rF .nil)) ⟨rfl, ⟨rfl, rfl, rfl, (.cons rS .nil)⟩, rfl, ⟨rfl, rfl, rfl, (.flats (flats_map (fun _ => rfl) _))⟩, trivial⟩ ⟨rfl, ⟨rfl, rfl, rfl, (.cons rS .nil)⟩, rfl, ⟨rfl, rfl, rfl, (.flats (flats_map (fun _ => rfl) _))⟩, trivial⟩ rF) <|
    .p (does_i ((y % 81) - 40) (wrap_i64 (by omega) (by omega)) .i64) <| .a 2 3 <| .nil _ _) ?_
  refine aw_rt ?_
  exact en_ret [.agg #[.int .i64 ((x % 81) - 40), .int .i64 ((y % 81) - 40)]] (show (.agg #[.int .i64 ((x % 81) - 40), .int .i64 ((y % 81) - 40)] : Value) = (.agg #[.int .i64 (x % 81 - 40), .int .i64 (y % 81 - 40)]) from (congrArg (fun z : List Value => Value.agg z.toArray) (lcons (congrArg (Value.int .i64) (show ((x % 81) - 40) = (x % 81 - 40) from by rfl)) (lcons (congrArg (Value.int .i64) (show ((y % 81) - 40) = (y % 81 - 40) from by rfl)) rfl))))
theorem mpoint_ok (x y : Int) :
    AC Try.prog 54 1 ([sV 0 2]) [(0, ⟨[.int .i64 x, .int .i64 y], 3, true, 1⟩)] (.agg #[.int .i64 (x % 81 - 40), .int .i64 (y % 81 - 40)]) [(0, ⟨[.int .i64 x, .int .i64 y], 3, true, 1⟩)] := by
  refine ac_in Try.func54 (fun w0 W pin => ?_)
  refine aw_p 3 (
    .a 1 1 <| .nil _ _) ?_
  refine aw_p 7 (
    .a 3 2 <| .p (does_k [2, 0] (spoint_ok x y)) <| .a 1 3 <| .nil _ _) ?_
  refine aw_rt ?_
  exact en_ret [.agg #[.int .i64 (x % 81 - 40), .int .i64 (y % 81 - 40)]] (by kernel_rfl)
theorem small_ok (x : Int) (hx : Sp.In64 x) :
    AC Try.prog 10 0 ([.int .i64 x]) [] (.agg #[.int .i64 (x % 81 - 40), .int .i64 (Int.tdiv x 81 % 81 - 40)]) [] := by
  refine ac_in Try.func10 (fun w0 W pin => ?_)
  refine aw_p 3 (
    .a 1 1 <| .nil _ _) ?_
  refine aw_p 7 (
    .a 2 2 <| .p (does_i (Int.tdiv x 81) (wrap_i64 (Sp.tdiv_in hx (by decide)).1 (Sp.tdiv_in hx (by decide)).2) .i64) <| .a 1 2 <| .p (does_k [2] (mpoint_ok x (Int.tdiv x 81))) <| .a 1 3 <| .nil _ _) ?_
  refine aw_rt ?_
  exact en_ret [.agg #[.int .i64 (x % 81 - 40), .int .i64 ((Int.tdiv x 81) % 81 - 40)]] (show (.agg #[.int .i64 (x % 81 - 40), .int .i64 ((Int.tdiv x 81) % 81 - 40)] : Value) = (.agg #[.int .i64 (x % 81 - 40), .int .i64 (Int.tdiv x 81 % 81 - 40)]) from (congrArg (fun z : List Value => Value.agg z.toArray) (lcons rfl (lcons (congrArg (Value.int .i64) (show ((Int.tdiv x 81) % 81 - 40) = (Int.tdiv x 81 % 81 - 40) from by rfl)) rfl))))
theorem turn_in (ax ay bx b_y cx cy : Int) (axl : -1048576 ≤ ax) (axu : ax ≤ 1048576) (ayl : -1048576 ≤ ay) (ayu : ay ≤ 1048576) (bxl : -1048576 ≤ bx) (bxu : bx ≤ 1048576) (b_yl : -1048576 ≤ b_y) (b_yu : b_y ≤ 1048576) (cxl : -1048576 ≤ cx) (cxu : cx ≤ 1048576) (cyl : -1048576 ≤ cy) (cyu : cy ≤ 1048576) : AC Try.prog 57 0 [.agg #[.int .i64 ax, .int .i64 ay], .agg #[.int .i64 bx, .int .i64 b_y], .agg #[.int .i64 cx, .int .i64 cy]] [] (.int .i64 (Sp.cmp (Sp.crs ax ay bx b_y cx cy) 0)) [] := by
  have h := turn_ok ax ay bx b_y cx cy
  simp only [Sp.lim_id axl axu, Sp.lim_id ayl ayu, Sp.lim_id bxl bxu, Sp.lim_id b_yl b_yu, Sp.lim_id cxl cxu, Sp.lim_id cyl cyu] at h
  exact h
theorem on_in (ax ay bx b_y cx cy : Int) (axl : -1048576 ≤ ax) (axu : ax ≤ 1048576) (ayl : -1048576 ≤ ay) (ayu : ay ≤ 1048576) (bxl : -1048576 ≤ bx) (bxu : bx ≤ 1048576) (b_yl : -1048576 ≤ b_y) (b_yu : b_y ≤ 1048576) (cxl : -1048576 ≤ cx) (cxu : cx ≤ 1048576) (cyl : -1048576 ≤ cy) (cyu : cy ≤ 1048576) : AC Try.prog 56 0 [.agg #[.int .i64 ax, .int .i64 ay], .agg #[.int .i64 bx, .int .i64 b_y], .agg #[.int .i64 cx, .int .i64 cy]] [] (.bool (Sp.onb ax ay bx b_y cx cy)) [] := by
  have h := on_ok ax ay bx b_y cx cy
  simp only [Sp.lim_id axl axu, Sp.lim_id ayl ayu, Sp.lim_id bxl bxu, Sp.lim_id b_yl b_yu, Sp.lim_id cxl cxu, Sp.lim_id cyl cyu] at h
  exact h
end Go.Proofs.Ytndkhgfecnbmnaa.Am

namespace Go.Proofs.Ytndkhgfecnbmnaa.Am
open Go Go.Proofs
set_option maxRecDepth 100000
set_option maxHeartbeats 4000000
set_option linter.unusedVariables false
set_option linter.unusedSimpArgs false
theorem asq1_ok (x y r : Int) (x0 : -1000 ≤ x) (x1 : x ≤ 1000) (y0 : -1000 ≤ y) (y1 : y ≤ 1000) (r0 : -1000 ≤ r) (r1 : r ≤ 1000) :
    AC Try.prog 52 0 ([.int .i64 x, .int .i64 y, .int .i64 r]) [] (sV 0 4) [(0, (pB (Sp.sqr x y r)))] := by
  refine ac_in Try.func52 (fun w0 W pin => ?_)
  refine aw_p 3 (
    .a 1 0 <| .nil _ _) ?_
  refine aw_p 7 (
    .a 2 0 <| .p (does_i (x - r) (wrap_i64 (by omega) (by omega)) .i64) <| .a 2 0 <| .p (does_i (y - r) (wrap_i64 (by omega) (by omega)) .i64) <| .a 3 0 <| .p (does_i (x + r) (wrap_i64 (by omega) (by omega)) .i64) <| .a 2 0 <| .p (does_i (y - r) (wrap_i64 (by omega) (by omega)) .i64) <| .a 3 0 <|
    .p (does_i (x + r) (wrap_i64 (by omega) (by omega)) .i64) <| .a 2 0 <| .p (does_i (y + r) (wrap_i64 (by omega) (by omega)) .i64) <| .a 3 0 <| .p (does_i (x - r) (wrap_i64 (by omega) (by omega)) .i64) <| .a 2 0 <| .p (does_i (y + r) (wrap_i64 (by omega) (by omega)) .i64) <| .a 3 0 <| .nil _ _) ?_
  refine aw_w [(0, .int .i64 x), (1, .int .i64 y), (2, .int .i64 r), (6, sV 0 4), (7, .int .i64 x), (8, .int .i64 r), (9, .int .i64 (x - r)), (10, .int .i64 y), (11, .int .i64 r), (12, .int .i64 (y - r)), (13, .agg #[.int .i64 (x - r), .int .i64 (y - r)]), (14, .int .i64 x), (15, .int .i64 r), (16, .int .i64 (x + r)), (17, .int .i64 y), (18, .int .i64 r), (19, .int .i64 (y - r)), (20, .agg #[.int .i64 (x + r), .int .i64 (y - r)]), (21, .int .i64 x), (22, .int .i64 r), (23, .int .i64 (x + r)), (24, .int .i64 y), (25, .int .i64 r), (26, .int .i64 (y + r)), (27, .agg #[.int .i64 (x + r), .int .i64 (y + r)]), (28, .int .i64 x), (29, .int .i64 r), (30, .int .i64 (x - r)), (31, .int .i64 y), (32, .int .i64 r), (33, .int .i64 (y + r)), (34, .agg #[.int .i64 (x - r), .int .i64 (y + r)]), (35, sV 0 4)] [(0, (pB (Sp.sqr x y r)))] ?_ (by kernel_rfl) (by kernel_rfl) (hc := (by simp [closedB, valsB, valB, List.all_eq_true, List.mem_flatMap, List.mem_range, List.mem_map, i64v, ptc, Sp.sqr, flat1]; try (intros; simp [valsB, valB, flat1]); try decide))
  refine aw_rt ?_
  exact en_ret [sV 0 4] (by kernel_rfl)
theorem asq2_ok (x y r : Int) (x0 : -1000 ≤ x) (x1 : x ≤ 1000) (y0 : -1000 ≤ y) (y1 : y ≤ 1000) (r0 : -1000 ≤ r) (r1 : r ≤ 1000) :
    AC Try.prog 53 0 ([.int .i64 x, .int .i64 y, .int .i64 r]) [] (sV 0 4) [(0, (pB (Sp.hol x y r)))] := by
  refine ac_in Try.func53 (fun w0 W pin => ?_)
  refine aw_p 3 (
    .a 1 0 <| .nil _ _) ?_
  refine aw_p 7 (
    .a 2 0 <| .p (does_i (x - r) (wrap_i64 (by omega) (by omega)) .i64) <| .a 2 0 <| .p (does_i (y - r) (wrap_i64 (by omega) (by omega)) .i64) <| .a 3 0 <| .p (does_i (x - r) (wrap_i64 (by omega) (by omega)) .i64) <| .a 2 0 <| .p (does_i (y + r) (wrap_i64 (by omega) (by omega)) .i64) <| .a 3 0 <|
    .p (does_i (x + r) (wrap_i64 (by omega) (by omega)) .i64) <| .a 2 0 <| .p (does_i (y + r) (wrap_i64 (by omega) (by omega)) .i64) <| .a 3 0 <| .p (does_i (x + r) (wrap_i64 (by omega) (by omega)) .i64) <| .a 2 0 <| .p (does_i (y - r) (wrap_i64 (by omega) (by omega)) .i64) <| .a 3 0 <| .nil _ _) ?_
  refine aw_w [(0, .int .i64 x), (1, .int .i64 y), (2, .int .i64 r), (6, sV 0 4), (7, .int .i64 x), (8, .int .i64 r), (9, .int .i64 (x - r)), (10, .int .i64 y), (11, .int .i64 r), (12, .int .i64 (y - r)), (13, .agg #[.int .i64 (x - r), .int .i64 (y - r)]), (14, .int .i64 x), (15, .int .i64 r), (16, .int .i64 (x - r)), (17, .int .i64 y), (18, .int .i64 r), (19, .int .i64 (y + r)), (20, .agg #[.int .i64 (x - r), .int .i64 (y + r)]), (21, .int .i64 x), (22, .int .i64 r), (23, .int .i64 (x + r)), (24, .int .i64 y), (25, .int .i64 r), (26, .int .i64 (y + r)), (27, .agg #[.int .i64 (x + r), .int .i64 (y + r)]), (28, .int .i64 x), (29, .int .i64 r), (30, .int .i64 (x + r)), (31, .int .i64 y), (32, .int .i64 r), (33, .int .i64 (y - r)), (34, .agg #[.int .i64 (x + r), .int .i64 (y - r)]), (35, sV 0 4)] [(0, (pB (Sp.hol x y r)))] ?_ (by kernel_rfl) (by kernel_rfl) (hc := (by simp [closedB, valsB, valB, List.all_eq_true, List.mem_flatMap, List.mem_range, List.mem_map, i64v, ptc, Sp.hol, flat1]; try (intros; simp [valsB, valB, flat1]); try decide))
  refine aw_rt ?_
  exact en_ret [sV 0 4] (by kernel_rfl)
theorem nextz (xs : List Int) (p : Nat) (n : Int) (h0 : 0 < n) (hz : n ≤ 9223372036854775807) : AC Try.prog 51 2 [.pointer (some ⟨0, 0, none⟩), .int .i64 n] [(0, ⟨[.slice (some ⟨1, (min p xs.length), none⟩) (xs.length - p) 0], 71, true, 1⟩), (1, ⟨(xs.map i64v), 3, false, 1⟩)] (.int .i64 (xs.getD p 0 % n)) [(0, ⟨[.slice (some ⟨1, (min (p + 1) xs.length), none⟩) (xs.length - (p + 1)) 0], 71, true, 1⟩)] := by
  by_cases hp : p < xs.length
  · have h := next_ro xs p n hp h0 hz
    rw [show min p xs.length = p by omega, show min (p + 1) xs.length = p + 1 by omega, Nat.sub_add_eq]
    exact h
  · have h := next0_ro xs (min p xs.length) n (by omega)
    rw [show xs.length - min p xs.length = 0 by omega] at h
    rw [show min (p + 1) xs.length = min p xs.length by omega, show xs.length - p = 0 by omega, show xs.length - (p + 1) = 0 by omega, show xs.getD p 0 = 0 by simp [List.getD, List.getElem?_eq_none (Nat.le_of_not_lt hp)], Int.zero_emod]
    exact h
theorem nextz0 (xs : List Int) (n : Int) (h0 : 0 < n) (hz : n ≤ 9223372036854775807) : AC Try.prog 51 2 [.pointer (some ⟨0, 0, none⟩), .int .i64 n] [(0, ⟨[.slice (some ⟨1, 0, none⟩) (xs.length) 0], 71, true, 1⟩), (1, ⟨(xs.map i64v), 3, false, 1⟩)] (.int .i64 (xs.getD 0 0 % n)) [(0, ⟨[.slice (some ⟨1, (min (0 + 1) xs.length), none⟩) (xs.length - (0 + 1)) 0], 71, true, 1⟩)] := by
  have h := nextz xs 0 n h0 hz
  rw [Nat.zero_min, Nat.sub_zero] at h
  exact h
end Go.Proofs.Ytndkhgfecnbmnaa.Am

namespace Go.Proofs.Ytndkhgfecnbmnaa.Am
open Go Go.Proofs
set_option maxRecDepth 100000
set_option maxHeartbeats 4000000
set_option linter.unusedVariables false
set_option linter.unusedSimpArgs false
theorem marea_0 (xs : List Int) (hs : xs.getD 3 0 % 4 = 0) :
    AC Try.prog 9 1 ([sV 0 xs.length]) [(0, ⟨(xs.map i64v), 3, false, 1⟩)] (sV 1 1) [(1, ⟨[sV 2 4], 30, true, 1⟩), (2, (pB (Sp.sqr (xs.getD 0 0 % 30 - 15) (xs.getD 1 0 % 30 - 15) (6 + xs.getD 2 0 % 10))))] := by
  have g0 := Sp.emod_bd (xs.getD 0 0) (n := 30) (by decide); have g1 := Sp.emod_bd (xs.getD 1 0) (n := 30) (by decide); have g2 := Sp.emod_bd (xs.getD 2 0) (n := 10) (by decide); have g4 := Sp.emod_bd (xs.getD 4 0) (n := (6 + xs.getD 2 0 % 10) - 2) (by omega); have g5 := Sp.emod_bd (xs.getD 4 0) (n := (6 + xs.getD 2 0 % 10) - 4) (by omega); have g6 := Sp.emod_bd (xs.getD 4 0) (n := 3) (by decide); have g7 := Sp.emod_bd (xs.getD 5 0) (n := 3 + xs.getD 4 0 % ((6 + xs.getD 2 0 % 10) - 4) - 2) (by omega)
  refine ac_in Try.func9 (fun w0 W pin => ?_)
  refine aw_p 3 (
    .a 1 1 <| .nil _ _) ?_
  refine aw_p 7 (
    .a 4 1 <| .nil _ _) ?_
  refine aw_p 15 (
    .a 1 2 <|
    .p (cF #[.tmp 14, .const (.int .i64 30)] #[69, 3] [.pointer (some ⟨1, 0, none⟩), .int .i64 30] 0 [1, 0] [(1, ⟨[sV 0 xs.length], 71, true, 1⟩), (0, ⟨(xs.map i64v), 3, false, 1⟩)] [(1, ⟨[.slice (some ⟨0, (min 1 xs.length), none⟩) (xs.length - 1) 0], 71, true, 1⟩)] (.int .i64 (xs.getD 0 0 % 30)) (nextz0 xs 30 (by decide) (by decide)) (.cons (.ptr _ _ (by decide)) (.cons rF .nil)) ⟨rfl, ⟨rfl, rfl, rfl, (.cons rS .nil)⟩, rfl, ⟨rfl, rfl, rfl, (.flats (flats_map (fun _ => rfl) _))⟩, trivial⟩ ⟨rfl, ⟨rfl, rfl, rfl, (.cons rS .nil)⟩, trivial⟩ rF) <|
    .p (does_i ((xs.getD 0 0 % 30) - 15) (wrap_i64 (by omega) (by omega)) .i64) <| .a 1 2 <|
    .p (cF #[.tmp 17, .const (.int .i64 30)] #[69, 3] [.pointer (some ⟨1, 0, none⟩), .int .i64 30] 0 [1, 0] [(1, ⟨[.slice (some ⟨0, (min 1 xs.length), none⟩) (xs.length - 1) 0], 71, true, 1⟩), (0, ⟨(xs.map i64v), 3, false, 1⟩)] [(1, ⟨[.slice (some ⟨0, (min 2 xs.length), none⟩) (xs.length - 2) 0], 71, true, 1⟩)] (.int .i64 (xs.getD 1 0 % 30)) (nextz xs 1 30 (by decide) (by decide)) (.cons (.ptr _ _ (by decide)) (.cons rF .nil)) ⟨rfl, ⟨rfl, rfl, rfl, (.cons rS .nil)⟩, rfl, ⟨rfl, rfl, rfl, (.flats (flats_map (fun _ => rfl) _))⟩, trivial⟩ ⟨rfl, ⟨rfl, rfl, rfl, (.cons rS .nil)⟩, trivial⟩ rF) <|
    .p (does_i ((xs.getD 1 0 % 30) - 15) (wrap_i64 (by omega) (by omega)) .i64) <| .a 1 2 <|
    .p (cF #[.tmp 20, .const (.int .i64 10)] #[69, 3] [.pointer (some ⟨1, 0, none⟩), .int .i64 10] 0 [1, 0] [(1, ⟨[.slice (some ⟨0, (min 2 xs.length), none⟩) (xs.length - 2) 0], 71, true, 1⟩), (0, ⟨(xs.map i64v), 3, false, 1⟩)] [(1, ⟨[.slice (some ⟨0, (min 3 xs.length), none⟩) (xs.length - 3) 0], 71, true, 1⟩)] (.int .i64 (xs.getD 2 0 % 10)) (nextz xs 2 10 (by decide) (by decide)) (.cons (.ptr _ _ (by decide)) (.cons rF .nil)) ⟨rfl, ⟨rfl, rfl, rfl, (.cons rS .nil)⟩, rfl, ⟨rfl, rfl, rfl, (.flats (flats_map (fun _ => rfl) _))⟩, trivial⟩ ⟨rfl, ⟨rfl, rfl, rfl, (.cons rS .nil)⟩, trivial⟩ rF) <|
    .p (does_i (6 + (xs.getD 2 0 % 10)) (wrap_i64 (by omega) (by omega)) .i64) <| .a 3 2 <| .nil _ _) ?_
  refine aw_p 31 (
    .a 1 2 <| .nil _ _) ?_
  refine aw_p 63 (
    .a 1 2 <| .nil _ _) ?_
  refine aw_p 127 (
    .a 4 2 <|
    .p (does_callB (x := .tmp 23) (ars := #[.tmp 24, .tmp 25, .tmp 26]) (ats := #[3, 3, 3]) (g := 52) (vs := [.int .i64 ((xs.getD 0 0 % 30) - 15), .int .i64 ((xs.getD 1 0 % 30) - 15), .int .i64 (6 + (xs.getD 2 0 % 10))]) (m := 0) (r := 1) (firsts := #[]) (caps := #[]) (args0 := [.int .i64 ((xs.getD 0 0 % 30) - 15), .int .i64 ((xs.getD 1 0 % 30) - 15), .int .i64 (6 + (xs.getD 2 0 % 10))]) (pre0 := []) (post0 := [(0, (pB (Sp.sqr ((xs.getD 0 0 % 30) - 15) ((xs.getD 1 0 % 30) - 15) (6 + (xs.getD 2 0 % 10)))))]) (pre := []) (post := [(2, (pB (Sp.sqr ((xs.getD 0 0 % 30) - 15) ((xs.getD 1 0 % 30) - 15) (6 + (xs.getD 2 0 % 10)))))]) (v0 := sV 0 4) (v := sV 2 4) [2] (by kernel_rfl) (by kernel_rfl) (by kernel_rfl) (by kernel_rfl) (asq1_ok ((xs.getD 0 0 % 30) - 15) ((xs.getD 1 0 % 30) - 15) (6 + (xs.getD 2 0 % 10)) (by omega) (by omega) (by omega) (by omega) (by omega) (by omega)) (.flats (by kernel_rfl)) trivial (by kernel_rfl) (by kernel_rfl) (by kernel_rfl) ⟨rfl, bP, trivial⟩ rS) <|
    .a 2 3 <| .nil _ _) ?_
  refine aw_sq 254 255 ?_
  refine aw_p 509 (
    .a 1 4 <|
    .p (cF #[.tmp 29, .const (.int .i64 4)] #[69, 3] [.pointer (some ⟨1, 0, none⟩), .int .i64 4] 0 [1, 0] [(1, ⟨[.slice (some ⟨0, (min 3 xs.length), none⟩) (xs.length - 3) 0], 71, true, 1⟩), (0, ⟨(xs.map i64v), 3, false, 1⟩)] [(1, ⟨[.slice (some ⟨0, (min 4 xs.length), none⟩) (xs.length - 4) 0], 71, true, 1⟩)] (.int .i64 (xs.getD 3 0 % 4)) (nextz xs 3 4 (by decide) (by decide)) (.cons (.ptr _ _ (by decide)) (.cons rF .nil)) ⟨rfl, ⟨rfl, rfl, rfl, (.cons rS .nil)⟩, rfl, ⟨rfl, rfl, rfl, (.flats (flats_map (fun _ => rfl) _))⟩, trivial⟩ ⟨rfl, ⟨rfl, rfl, rfl, (.cons rS .nil)⟩, trivial⟩ rF) <| .nil _ _) ?_
  refine aw_bl 0 1019 ?_
  refine aw_p 2039 (
    .p (does_b false ((show ((xs.getD 3 0 % 4) == 1) = false from (by rw [hs]; decide)))) <| .a 1 4 <| .nil _ _) ?_
  refine aw_fl 4079 ?_
  refine aw_p 8159 (
    .p (does_b false ((show ((xs.getD 3 0 % 4) == 2) = false from (by rw [hs]; decide)))) <| .a 1 4 <| .nil _ _) ?_
  refine aw_fl 16319 ?_
  refine aw_p 32639 (
    .p (does_b false ((show ((xs.getD 3 0 % 4) == 3) = false from (by rw [hs]; decide)))) <| .a 1 4 <| .nil _ _) ?_
  refine aw_fl 65279 ?_
  refine aw_sk ?_
  refine block_normal ?_
  refine then_normal ?_
  refine aw_p 511 (
    .a 2 4 <| .nil _ _) ?_
  refine aw_r [(1, 3)] [(2, sV 3 1)] [(0, ⟨(xs.map i64v), 3, false, 1⟩), (3, ⟨[sV 2 4], 30, true, 1⟩), (2, (pB (Sp.sqr ((xs.getD 0 0 % 30) - 15) ((xs.getD 1 0 % 30) - 15) (6 + (xs.getD 2 0 % 10)))))] [(2, sV 1 1)] [(0, ⟨(xs.map i64v), 3, false, 1⟩), (1, ⟨[sV 2 4], 30, true, 1⟩), (2, (pB (Sp.sqr ((xs.getD 0 0 % 30) - 15) ((xs.getD 1 0 % 30) - 15) (6 + (xs.getD 2 0 % 10)))))] ?_ ⟨rfl, (rK rfl), trivial⟩ ⟨rfl, ⟨rfl, rfl, rfl, (.flats (flats_map (fun _ => rfl) _))⟩, rfl, ⟨rfl, rfl, rfl, (.cons (rK rfl) .nil)⟩, rfl, ⟨rfl, rfl, rfl, (.flats (flats_pair _))⟩, trivial⟩
  refine aw_rt ?_
  exact en_ret [sV 1 1] (by kernel_rfl)
theorem marea_1 (xs : List Int) (hs : xs.getD 3 0 % 4 = 1) :
    AC Try.prog 9 1 ([sV 0 xs.length]) [(0, ⟨(xs.map i64v), 3, false, 1⟩)] (sV 1 2) [(1, ⟨[sV 2 4, sV 3 4], 30, true, 1⟩), (2, (pB (Sp.sqr (xs.getD 0 0 % 30 - 15) (xs.getD 1 0 % 30 - 15) (6 + xs.getD 2 0 % 10)))), (3, (pB (Sp.hol (xs.getD 0 0 % 30 - 15) (xs.getD 1 0 % 30 - 15) (1 + xs.getD 4 0 % ((6 + xs.getD 2 0 % 10) - 2)))))] := by
  have g0 := Sp.emod_bd (xs.getD 0 0) (n := 30) (by decide); have g1 := Sp.emod_bd (xs.getD 1 0) (n := 30) (by decide); have g2 := Sp.emod_bd (xs.getD 2 0) (n := 10) (by decide); have g4 := Sp.emod_bd (xs.getD 4 0) (n := (6 + xs.getD 2 0 % 10) - 2) (by omega); have g5 := Sp.emod_bd (xs.getD 4 0) (n := (6 + xs.getD 2 0 % 10) - 4) (by omega); have g6 := Sp.emod_bd (xs.getD 4 0) (n := 3) (by decide); have g7 := Sp.emod_bd (xs.getD 5 0) (n := 3 + xs.getD 4 0 % ((6 + xs.getD 2 0 % 10) - 4) - 2) (by omega)
  refine ac_in Try.func9 (fun w0 W pin => ?_)
  refine aw_p 3 (
    .a 1 1 <| .nil _ _) ?_
  refine aw_p 7 (
    .a 4 1 <| .nil _ _) ?_
  refine aw_p 15 (
    .a 1 2 <|
    .p (cF #[.tmp 14, .const (.int .i64 30)] #[69, 3] [.pointer (some ⟨1, 0, none⟩), .int .i64 30] 0 [1, 0] [(1, ⟨[sV 0 xs.length], 71, true, 1⟩), (0, ⟨(xs.map i64v), 3, false, 1⟩)] [(1, ⟨[.slice (some ⟨0, (min 1 xs.length), none⟩) (xs.length - 1) 0], 71, true, 1⟩)] (.int .i64 (xs.getD 0 0 % 30)) (nextz0 xs 30 (by decide) (by decide)) (.cons (.ptr _ _ (by decide)) (.cons rF .nil)) ⟨rfl, ⟨rfl, rfl, rfl, (.cons rS .nil)⟩, rfl, ⟨rfl, rfl, rfl, (.flats (flats_map (fun _ => rfl) _))⟩, trivial⟩ ⟨rfl, ⟨rfl, rfl, rfl, (.cons rS .nil)⟩, trivial⟩ rF) <|
    .p (does_i ((xs.getD 0 0 % 30) - 15) (wrap_i64 (by omega) (by omega)) .i64) <| .a 1 2 <|
    .p (cF #[.tmp 17, .const (.int .i64 30)] #[69, 3] [.pointer (some ⟨1, 0, none⟩), .int .i64 30] 0 [1, 0] [(1, ⟨[.slice (some ⟨0, (min 1 xs.length), none⟩) (xs.length - 1) 0], 71, true, 1⟩), (0, ⟨(xs.map i64v), 3, false, 1⟩)] [(1, ⟨[.slice (some ⟨0, (min 2 xs.length), none⟩) (xs.length - 2) 0], 71, true, 1⟩)] (.int .i64 (xs.getD 1 0 % 30)) (nextz xs 1 30 (by decide) (by decide)) (.cons (.ptr _ _ (by decide)) (.cons rF .nil)) ⟨rfl, ⟨rfl, rfl, rfl, (.cons rS .nil)⟩, rfl, ⟨rfl, rfl, rfl, (.flats (flats_map (fun _ => rfl) _))⟩, trivial⟩ ⟨rfl, ⟨rfl, rfl, rfl, (.cons rS .nil)⟩, trivial⟩ rF) <|
    .p (does_i ((xs.getD 1 0 % 30) - 15) (wrap_i64 (by omega) (by omega)) .i64) <| .a 1 2 <|
    .p (cF #[.tmp 20, .const (.int .i64 10)] #[69, 3] [.pointer (some ⟨1, 0, none⟩), .int .i64 10] 0 [1, 0] [(1, ⟨[.slice (some ⟨0, (min 2 xs.length), none⟩) (xs.length - 2) 0], 71, true, 1⟩), (0, ⟨(xs.map i64v), 3, false, 1⟩)] [(1, ⟨[.slice (some ⟨0, (min 3 xs.length), none⟩) (xs.length - 3) 0], 71, true, 1⟩)] (.int .i64 (xs.getD 2 0 % 10)) (nextz xs 2 10 (by decide) (by decide)) (.cons (.ptr _ _ (by decide)) (.cons rF .nil)) ⟨rfl, ⟨rfl, rfl, rfl, (.cons rS .nil)⟩, rfl, ⟨rfl, rfl, rfl, (.flats (flats_map (fun _ => rfl) _))⟩, trivial⟩ ⟨rfl, ⟨rfl, rfl, rfl, (.cons rS .nil)⟩, trivial⟩ rF) <|
    .p (does_i (6 + (xs.getD 2 0 % 10)) (wrap_i64 (by omega) (by omega)) .i64) <| .a 3 2 <| .nil _ _) ?_
  refine aw_p 31 (
    .a 1 2 <| .nil _ _) ?_
  refine aw_p 63 (
    .a 1 2 <| .nil _ _) ?_
  refine aw_p 127 (
    .a 4 2 <|
    .p (does_callB (x := .tmp 23) (ars := #[.tmp 24, .tmp 25, .tmp 26]) (ats := #[3, 3, 3]) (g := 52) (vs := [.int .i64 ((xs.getD 0 0 % 30) - 15), .int .i64 ((xs.getD 1 0 % 30) - 15), .int .i64 (6 + (xs.getD 2 0 % 10))]) (m := 0) (r := 1) (firsts := #[]) (caps := #[]) (args0 := [.int .i64 ((xs.getD 0 0 % 30) - 15), .int .i64 ((xs.getD 1 0 % 30) - 15), .int .i64 (6 + (xs.getD 2 0 % 10))]) (pre0 := []) (post0 := [(0, (pB (Sp.sqr ((xs.getD 0 0 % 30) - 15) ((xs.getD 1 0 % 30) - 15) (6 + (xs.getD 2 0 % 10)))))]) (pre := []) (post := [(2, (pB (Sp.sqr ((xs.getD 0 0 % 30) - 15) ((xs.getD 1 0 % 30) - 15) (6 + (xs.getD 2 0 % 10)))))]) (v0 := sV 0 4) (v := sV 2 4) [2] (by kernel_rfl) (by kernel_rfl) (by kernel_rfl) (by kernel_rfl) (asq1_ok ((xs.getD 0 0 % 30) - 15) ((xs.getD 1 0 % 30) - 15) (6 + (xs.getD 2 0 % 10)) (by omega) (by omega) (by omega) (by omega) (by omega) (by omega)) (.flats (by kernel_rfl)) trivial (by kernel_rfl) (by kernel_rfl) (by kernel_rfl) ⟨rfl, bP, trivial⟩ rS) <|
    .a 2 3 <| .nil _ _) ?_
  refine aw_sq 254 255 ?_
  refine aw_p 509 (
    .a 1 4 <|
    .p (cF #[.tmp 29, .const (.int .i64 4)] #[69, 3] [.pointer (some ⟨1, 0, none⟩), .int .i64 4] 0 [1, 0] [(1, ⟨[.slice (some ⟨0, (min 3 xs.length), none⟩) (xs.length - 3) 0], 71, true, 1⟩), (0, ⟨(xs.map i64v), 3, false, 1⟩)] [(1, ⟨[.slice (some ⟨0, (min 4 xs.length), none⟩) (xs.length - 4) 0], 71, true, 1⟩)] (.int .i64 (xs.getD 3 0 % 4)) (nextz xs 3 4 (by decide) (by decide)) (.cons (.ptr _ _ (by decide)) (.cons rF .nil)) ⟨rfl, ⟨rfl, rfl, rfl, (.cons rS .nil)⟩, rfl, ⟨rfl, rfl, rfl, (.flats (flats_map (fun _ => rfl) _))⟩, trivial⟩ ⟨rfl, ⟨rfl, rfl, rfl, (.cons rS .nil)⟩, trivial⟩ rF) <| .nil _ _) ?_
  refine aw_bl 0 1019 ?_
  refine aw_p 2039 (
    .p (does_b true ((show ((xs.getD 3 0 % 4) == 1) = true from (by rw [hs]; decide)))) <| .a 1 4 <| .nil _ _) ?_
  refine aw_tr 4078 ?_
  refine aw_p 8157 (
    .a 6 4 <| .p (does_i ((6 + (xs.getD 2 0 % 10)) - 2) (wrap_i64 (by omega) (by omega)) .i64) <|
    .p (cF #[.tmp 37, .tmp 39] #[69, 3] [.pointer (some ⟨1, 0, none⟩), .int .i64 ((6 + (xs.getD 2 0 % 10)) - 2)] 0 [1, 0] [(1, ⟨[.slice (some ⟨0, (min 4 xs.length), none⟩) (xs.length - 4) 0], 71, true, 1⟩), (0, ⟨(xs.map i64v), 3, false, 1⟩)] [(1, ⟨[.slice (some ⟨0, (min 5 xs.length), none⟩) (xs.length - 5) 0], 71, true, 1⟩)] (.int .i64 (xs.getD 4 0 % ((6 + (xs.getD 2 0 % 10)) - 2))) (nextz xs 4 ((6 + (xs.getD 2 0 % 10)) - 2) (by omega) (by omega)) (.cons (.ptr _ _ (by decide)) (.cons rF .nil)) ⟨rfl, ⟨rfl, rfl, rfl, (.cons rS .nil)⟩, rfl, ⟨rfl, rfl, rfl, (.flats (flats_map (fun _ => rfl) _))⟩, trivial⟩ ⟨rfl, ⟨rfl, rfl, rfl, (.cons rS .nil)⟩, trivial⟩ rF) <|
    .p (does_i (1 + (xs.getD 4 0 % ((6 + (xs.getD 2 0 % 10)) - 2))) (wrap_i64 (by omega) (by omega)) .i64) <|
    .p (does_callB (x := .tmp 34) (ars := #[.tmp 35, .tmp 36, .tmp 41]) (ats := #[3, 3, 3]) (g := 53) (vs := [.int .i64 ((xs.getD 0 0 % 30) - 15), .int .i64 ((xs.getD 1 0 % 30) - 15), .int .i64 (1 + (xs.getD 4 0 % ((6 + (xs.getD 2 0 % 10)) - 2)))]) (m := 0) (r := 1) (firsts := #[]) (caps := #[]) (args0 := [.int .i64 ((xs.getD 0 0 % 30) - 15), .int .i64 ((xs.getD 1 0 % 30) - 15), .int .i64 (1 + (xs.getD 4 0 % ((6 + (xs.getD 2 0 % 10)) - 2)))]) (pre0 := []) (post0 := [(0, (pB (Sp.hol ((xs.getD 0 0 % 30) - 15) ((xs.getD 1 0 % 30) - 15) (1 + (xs.getD 4 0 % ((6 + (xs.getD 2 0 % 10)) - 2))))))]) (pre := []) (post := [(4, (pB (Sp.hol ((xs.getD 0 0 % 30) - 15) ((xs.getD 1 0 % 30) - 15) (1 + (xs.getD 4 0 % ((6 + (xs.getD 2 0 % 10)) - 2))))))]) (v0 := sV 0 4) (v := sV 4 4) [4] (by kernel_rfl) (by kernel_rfl) (by kernel_rfl) (by kernel_rfl) (asq2_ok ((xs.getD 0 0 % 30) - 15) ((xs.getD 1 0 % 30) - 15) (1 + (xs.getD 4 0 % ((6 + (xs.getD 2 0 % 10)) - 2))) (by omega) (by omega) (by omega) (by omega) (by omega) (by omega)) (.flats (by kernel_rfl)) trivial (by kernel_rfl) (by kernel_rfl) (by kernel_rfl) ⟨rfl, bP, trivial⟩ rS) <|
    .a 1 5 <| .p (does_ap 6) <| .a 1 7 <| .nil _ _) ?_
  refine aw_r [(1, 6), (3, 4)] [(2, sV 6 2)] [(0, ⟨(xs.map i64v), 3, false, 1⟩), (6, ⟨[sV 2 4, sV 4 4], 30, true, 1⟩), (2, (pB (Sp.sqr ((xs.getD 0 0 % 30) - 15) ((xs.getD 1 0 % 30) - 15) (6 + (xs.getD 2 0 % 10))))), (4, (pB (Sp.hol ((xs.getD 0 0 % 30) - 15) ((xs.getD 1 0 % 30) - 15) (1 + (xs.getD 4 0 % ((6 + (xs.getD 2 0 % 10)) - 2))))))] [(2, sV 1 2)] [(0, ⟨(xs.map i64v), 3, false, 1⟩), (1, ⟨[sV 2 4, sV 3 4], 30, true, 1⟩), (2, (pB (Sp.sqr ((xs.getD 0 0 % 30) - 15) ((xs.getD 1 0 % 30) - 15) (6 + (xs.getD 2 0 % 10))))), (3, (pB (Sp.hol ((xs.getD 0 0 % 30) - 15) ((xs.getD 1 0 % 30) - 15) (1 + (xs.getD 4 0 % ((6 + (xs.getD 2 0 % 10)) - 2))))))] ?_ ⟨rfl, (rK rfl), trivial⟩ ⟨rfl, ⟨rfl, rfl, rfl, (.flats (flats_map (fun _ => rfl) _))⟩, rfl, ⟨rfl, rfl, rfl, (.cons (rK rfl) (.cons (rK rfl) .nil))⟩, rfl, ⟨rfl, rfl, rfl, (.flats (flats_pair _))⟩, rfl, ⟨rfl, rfl, rfl, (.flats (flats_pair _))⟩, trivial⟩
  refine aw_rt ?_
  refine block_ret ?_
  refine then_ret ?_
  exact en_ret [sV 1 2] (by kernel_rfl)
theorem marea_2 (xs : List Int) (hs : xs.getD 3 0 % 4 = 2) :
    AC Try.prog 9 1 ([sV 0 xs.length]) [(0, ⟨(xs.map i64v), 3, false, 1⟩)] (sV 1 3) [(1, ⟨[sV 2 4, sV 3 4, sV 4 4], 30, true, 1⟩), (2, (pB (Sp.sqr (xs.getD 0 0 % 30 - 15) (xs.getD 1 0 % 30 - 15) (6 + xs.getD 2 0 % 10)))), (3, (pB (Sp.hol (xs.getD 0 0 % 30 - 15) (xs.getD 1 0 % 30 - 15) (3 + xs.getD 4 0 % ((6 + xs.getD 2 0 % 10) - 4))))), (4, (pB (Sp.sqr (xs.getD 0 0 % 30 - 15) (xs.getD 1 0 % 30 - 15) (1 + xs.getD 5 0 % ((3 + xs.getD 4 0 % ((6 + xs.getD 2 0 % 10) - 4)) - 2)))))] := by
  have g0 := Sp.emod_bd (xs.getD 0 0) (n := 30) (by decide); have g1 := Sp.emod_bd (xs.getD 1 0) (n := 30) (by decide); have g2 := Sp.emod_bd (xs.getD 2 0) (n := 10) (by decide); have g4 := Sp.emod_bd (xs.getD 4 0) (n := (6 + xs.getD 2 0 % 10) - 2) (by omega); have g5 := Sp.emod_bd (xs.getD 4 0) (n := (6 + xs.getD 2 0 % 10) - 4) (by omega); have g6 := Sp.emod_bd (xs.getD 4 0) (n := 3) (by decide); have g7 := Sp.emod_bd (xs.getD 5 0) (n := 3 + xs.getD 4 0 % ((6 + xs.getD 2 0 % 10) - 4) - 2) (by omega)
  refine ac_in Try.func9 (fun w0 W pin => ?_)
  refine aw_p 3 (
    .a 1 1 <| .nil _ _) ?_
  refine aw_p 7 (
    .a 4 1 <| .nil _ _) ?_
  refine aw_p 15 (
    .a 1 2 <|
    .p (cF #[.tmp 14, .const (.int .i64 30)] #[69, 3] [.pointer (some ⟨1, 0, none⟩), .int .i64 30] 0 [1, 0] [(1, ⟨[sV 0 xs.length], 71, true, 1⟩), (0, ⟨(xs.map i64v), 3, false, 1⟩)] [(1, ⟨[.slice (some ⟨0, (min 1 xs.length), none⟩) (xs.length - 1) 0], 71, true, 1⟩)] (.int .i64 (xs.getD 0 0 % 30)) (nextz0 xs 30 (by decide) (by decide)) (.cons (.ptr _ _ (by decide)) (.cons rF .nil)) ⟨rfl, ⟨rfl, rfl, rfl, (.cons rS .nil)⟩, rfl, ⟨rfl, rfl, rfl, (.flats (flats_map (fun _ => rfl) _))⟩, trivial⟩ ⟨rfl, ⟨rfl, rfl, rfl, (.cons rS .nil)⟩, trivial⟩ rF) <|
    .p (does_i ((xs.getD 0 0 % 30) - 15) (wrap_i64 (by omega) (by omega)) .i64) <| .a 1 2 <|
    .p (cF #[.tmp 17, .const (.int .i64 30)] #[69, 3] [.pointer (some ⟨1, 0, none⟩), .int .i64 30] 0 [1, 0] [(1, ⟨[.slice (some ⟨0, (min 1 xs.length), none⟩) (xs.length - 1) 0], 71, true, 1⟩), (0, ⟨(xs.map i64v), 3, false, 1⟩)] [(1, ⟨[.slice (some ⟨0, (min 2 xs.length), none⟩) (xs.length - 2) 0], 71, true, 1⟩)] (.int .i64 (xs.getD 1 0 % 30)) (nextz xs 1 30 (by decide) (by decide)) (.cons (.ptr _ _ (by decide)) (.cons rF .nil)) ⟨rfl, ⟨rfl, rfl, rfl, (.cons rS .nil)⟩, rfl, ⟨rfl, rfl, rfl, (.flats (flats_map (fun _ => rfl) _))⟩, trivial⟩ ⟨rfl, ⟨rfl, rfl, rfl, (.cons rS .nil)⟩, trivial⟩ rF) <|
    .p (does_i ((xs.getD 1 0 % 30) - 15) (wrap_i64 (by omega) (by omega)) .i64) <| .a 1 2 <|
    .p (cF #[.tmp 20, .const (.int .i64 10)] #[69, 3] [.pointer (some ⟨1, 0, none⟩), .int .i64 10] 0 [1, 0] [(1, ⟨[.slice (some ⟨0, (min 2 xs.length), none⟩) (xs.length - 2) 0], 71, true, 1⟩), (0, ⟨(xs.map i64v), 3, false, 1⟩)] [(1, ⟨[.slice (some ⟨0, (min 3 xs.length), none⟩) (xs.length - 3) 0], 71, true, 1⟩)] (.int .i64 (xs.getD 2 0 % 10)) (nextz xs 2 10 (by decide) (by decide)) (.cons (.ptr _ _ (by decide)) (.cons rF .nil)) ⟨rfl, ⟨rfl, rfl, rfl, (.cons rS .nil)⟩, rfl, ⟨rfl, rfl, rfl, (.flats (flats_map (fun _ => rfl) _))⟩, trivial⟩ ⟨rfl, ⟨rfl, rfl, rfl, (.cons rS .nil)⟩, trivial⟩ rF) <|
    .p (does_i (6 + (xs.getD 2 0 % 10)) (wrap_i64 (by omega) (by omega)) .i64) <| .a 3 2 <| .nil _ _) ?_
  refine aw_p 31 (
    .a 1 2 <| .nil _ _) ?_
  refine aw_p 63 (
    .a 1 2 <| .nil _ _) ?_
  refine aw_p 127 (
    .a 4 2 <|
    .p (does_callB (x := .tmp 23) (ars := #[.tmp 24, .tmp 25, .tmp 26]) (ats := #[3, 3, 3]) (g := 52) (vs := [.int .i64 ((xs.getD 0 0 % 30) - 15), .int .i64 ((xs.getD 1 0 % 30) - 15), .int .i64 (6 + (xs.getD 2 0 % 10))]) (m := 0) (r := 1) (firsts := #[]) (caps := #[]) (args0 := [.int .i64 ((xs.getD 0 0 % 30) - 15), .int .i64 ((xs.getD 1 0 % 30) - 15), .int .i64 (6 + (xs.getD 2 0 % 10))]) (pre0 := []) (post0 := [(0, (pB (Sp.sqr ((xs.getD 0 0 % 30) - 15) ((xs.getD 1 0 % 30) - 15) (6 + (xs.getD 2 0 % 10)))))]) (pre := []) (post := [(2, (pB (Sp.sqr ((xs.getD 0 0 % 30) - 15) ((xs.getD 1 0 % 30) - 15) (6 + (xs.getD 2 0 % 10)))))]) (v0 := sV 0 4) (v := sV 2 4) [2] (by kernel_rfl) (by kernel_rfl) (by kernel_rfl) (by kernel_rfl) (asq1_ok ((xs.getD 0 0 % 30) - 15) ((xs.getD 1 0 % 30) - 15) (6 + (xs.getD 2 0 % 10)) (by omega) (by omega) (by omega) (by omega) (by omega) (by omega)) (.flats (by kernel_rfl)) trivial (by kernel_rfl) (by kernel_rfl) (by kernel_rfl) ⟨rfl, bP, trivial⟩ rS) <|
    .a 2 3 <| .nil _ _) ?_
  refine aw_sq 254 255 ?_
  refine aw_p 509 (
    .a 1 4 <|
    .p (cF #[.tmp 29, .const (.int .i64 4)] #[69, 3] [.pointer (some ⟨1, 0, none⟩), .int .i64 4] 0 [1, 0] [(1, ⟨[.slice (some ⟨0, (min 3 xs.length), none⟩) (xs.length - 3) 0], 71, true, 1⟩), (0, ⟨(xs.map i64v), 3, false, 1⟩)] [(1, ⟨[.slice (some ⟨0, (min 4 xs.length), none⟩) (xs.length - 4) 0], 71, true, 1⟩)] (.int .i64 (xs.getD 3 0 % 4)) (nextz xs 3 4 (by decide) (by decide)) (.cons (.ptr _ _ (by decide)) (.cons rF .nil)) ⟨rfl, ⟨rfl, rfl, rfl, (.cons rS .nil)⟩, rfl, ⟨rfl, rfl, rfl, (.flats (flats_map (fun _ => rfl) _))⟩, trivial⟩ ⟨rfl, ⟨rfl, rfl, rfl, (.cons rS .nil)⟩, trivial⟩ rF) <| .nil _ _) ?_
  refine aw_bl 0 1019 ?_
  refine aw_p 2039 (
    .p (does_b false ((show ((xs.getD 3 0 % 4) == 1) = false from (by rw [hs]; decide)))) <| .a 1 4 <| .nil _ _) ?_
  refine aw_fl 4079 ?_
  refine aw_p 8159 (
    .p (does_b true ((show ((xs.getD 3 0 % 4) == 2) = true from (by rw [hs]; decide)))) <| .a 1 4 <| .nil _ _) ?_
  refine aw_tr 16318 ?_
  refine aw_p 32637 (
    .a 2 4 <| .p (does_i ((6 + (xs.getD 2 0 % 10)) - 4) (wrap_i64 (by omega) (by omega)) .i64) <|
    .p (cF #[.tmp 47, .tmp 49] #[69, 3] [.pointer (some ⟨1, 0, none⟩), .int .i64 ((6 + (xs.getD 2 0 % 10)) - 4)] 0 [1, 0] [(1, ⟨[.slice (some ⟨0, (min 4 xs.length), none⟩) (xs.length - 4) 0], 71, true, 1⟩), (0, ⟨(xs.map i64v), 3, false, 1⟩)] [(1, ⟨[.slice (some ⟨0, (min 5 xs.length), none⟩) (xs.length - 5) 0], 71, true, 1⟩)] (.int .i64 (xs.getD 4 0 % ((6 + (xs.getD 2 0 % 10)) - 4))) (nextz xs 4 ((6 + (xs.getD 2 0 % 10)) - 4) (by omega) (by omega)) (.cons (.ptr _ _ (by decide)) (.cons rF .nil)) ⟨rfl, ⟨rfl, rfl, rfl, (.cons rS .nil)⟩, rfl, ⟨rfl, rfl, rfl, (.flats (flats_map (fun _ => rfl) _))⟩, trivial⟩ ⟨rfl, ⟨rfl, rfl, rfl, (.cons rS .nil)⟩, trivial⟩ rF) <|
    .p (does_i (3 + (xs.getD 4 0 % ((6 + (xs.getD 2 0 % 10)) - 4))) (wrap_i64 (by omega) (by omega)) .i64) <| .a 1 4 <| .nil _ _) ?_
  refine aw_p 65275 (
    .a 5 4 <|
    .p (does_callB (x := .tmp 53) (ars := #[.tmp 54, .tmp 55, .tmp 56]) (ats := #[3, 3, 3]) (g := 53) (vs := [.int .i64 ((xs.getD 0 0 % 30) - 15), .int .i64 ((xs.getD 1 0 % 30) - 15), .int .i64 (3 + (xs.getD 4 0 % ((6 + (xs.getD 2 0 % 10)) - 4)))]) (m := 0) (r := 1) (firsts := #[]) (caps := #[]) (args0 := [.int .i64 ((xs.getD 0 0 % 30) - 15), .int .i64 ((xs.getD 1 0 % 30) - 15), .int .i64 (3 + (xs.getD 4 0 % ((6 + (xs.getD 2 0 % 10)) - 4)))]) (pre0 := []) (post0 := [(0, (pB (Sp.hol ((xs.getD 0 0 % 30) - 15) ((xs.getD 1 0 % 30) - 15) (3 + (xs.getD 4 0 % ((6 + (xs.getD 2 0 % 10)) - 4))))))]) (pre := []) (post := [(4, (pB (Sp.hol ((xs.getD 0 0 % 30) - 15) ((xs.getD 1 0 % 30) - 15) (3 + (xs.getD 4 0 % ((6 + (xs.getD 2 0 % 10)) - 4))))))]) (v0 := sV 0 4) (v := sV 4 4) [4] (by kernel_rfl) (by kernel_rfl) (by kernel_rfl) (by kernel_rfl) (asq2_ok ((xs.getD 0 0 % 30) - 15) ((xs.getD 1 0 % 30) - 15) (3 + (xs.getD 4 0 % ((6 + (xs.getD 2 0 % 10)) - 4))) (by omega) (by omega) (by omega) (by omega) (by omega) (by omega)) (.flats (by kernel_rfl)) trivial (by kernel_rfl) (by kernel_rfl) (by kernel_rfl) ⟨rfl, bP, trivial⟩ rS) <|
    .a 5 5 <| .p (does_i ((3 + (xs.getD 4 0 % ((6 + (xs.getD 2 0 % 10)) - 4))) - 2) (wrap_i64 (by omega) (by omega)) .i64) <|
    .p (cF #[.tmp 61, .tmp 63] #[69, 3] [.pointer (some ⟨1, 0, none⟩), .int .i64 ((3 + (xs.getD 4 0 % ((6 + (xs.getD 2 0 % 10)) - 4))) - 2)] 0 [1, 0] [(1, ⟨[.slice (some ⟨0, (min 5 xs.length), none⟩) (xs.length - 5) 0], 71, true, 1⟩), (0, ⟨(xs.map i64v), 3, false, 1⟩)] [(1, ⟨[.slice (some ⟨0, (min 6 xs.length), none⟩) (xs.length - 6) 0], 71, true, 1⟩)] (.int .i64 (xs.getD 5 0 % ((3 + (xs.getD 4 0 % ((6 + (xs.getD 2 0 % 10)) - 4))) - 2))) (nextz xs 5 ((3 + (xs.getD 4 0 % ((6 + (xs.getD 2 0 % 10)) - 4))) - 2) (by omega) (by omega)) (.cons (.ptr _ _ (by decide)) (.cons rF .nil)) ⟨rfl, ⟨rfl, rfl, rfl, (.cons rS .nil)⟩, rfl, ⟨rfl, rfl, rfl, (.flats (flats_map (fun _ => rfl) _))⟩, trivial⟩ ⟨rfl, ⟨rfl, rfl, rfl, (.cons rS .nil)⟩, trivial⟩ rF) <|
    .p (does_i (1 + (xs.getD 5 0 % ((3 + (xs.getD 4 0 % ((6 + (xs.getD 2 0 % 10)) - 4))) - 2))) (wrap_i64 (by omega) (by omega)) .i64) <|
    .p (does_callB (x := .tmp 58) (ars := #[.tmp 59, .tmp 60, .tmp 65]) (ats := #[3, 3, 3]) (g := 52) (vs := [.int .i64 ((xs.getD 0 0 % 30) - 15), .int .i64 ((xs.getD 1 0 % 30) - 15), .int .i64 (1 + (xs.getD 5 0 % ((3 + (xs.getD 4 0 % ((6 + (xs.getD 2 0 % 10)) - 4))) - 2)))]) (m := 0) (r := 1) (firsts := #[]) (caps := #[]) (args0 := [.int .i64 ((xs.getD 0 0 % 30) - 15), .int .i64 ((xs.getD 1 0 % 30) - 15), .int .i64 (1 + (xs.getD 5 0 % ((3 + (xs.getD 4 0 % ((6 + (xs.getD 2 0 % 10)) - 4))) - 2)))]) (pre0 := []) (post0 := [(0, (pB (Sp.sqr ((xs.getD 0 0 % 30) - 15) ((xs.getD 1 0 % 30) - 15) (1 + (xs.getD 5 0 % ((3 + (xs.getD 4 0 % ((6 + (xs.getD 2 0 % 10)) - 4))) - 2))))))]) (pre := []) (post := [(5, (pB (Sp.sqr ((xs.getD 0 0 % 30) - 15) ((xs.getD 1 0 % 30) - 15) (1 + (xs.getD 5 0 % ((3 + (xs.getD 4 0 % ((6 + (xs.getD 2 0 % 10)) - 4))) - 2))))))]) (v0 := sV 0 4) (v := sV 5 4) [5] (by kernel_rfl) (by kernel_rfl) (by kernel_rfl) (by kernel_rfl) (asq1_ok ((xs.getD 0 0 % 30) - 15) ((xs.getD 1 0 % 30) - 15) (1 + (xs.getD 5 0 % ((3 + (xs.getD 4 0 % ((6 + (xs.getD 2 0 % 10)) - 4))) - 2))) (by omega) (by omega) (by omega) (by omega) (by omega) (by omega)) (.flats (by kernel_rfl)) trivial (by kernel_rfl) (by kernel_rfl) (by kernel_rfl) ⟨rfl, bP, trivial⟩ rS) <|
    .a 1 6 <| .p (does_ap 7) <| .a 1 8 <| .nil _ _) ?_
  refine aw_r [(1, 7), (3, 4), (4, 5)] [(2, sV 7 3)] [(0, ⟨(xs.map i64v), 3, false, 1⟩), (7, ⟨[sV 2 4, sV 4 4, sV 5 4], 30, true, 1⟩), (2, (pB (Sp.sqr ((xs.getD 0 0 % 30) - 15) ((xs.getD 1 0 % 30) - 15) (6 + (xs.getD 2 0 % 10))))), (4, (pB (Sp.hol ((xs.getD 0 0 % 30) - 15) ((xs.getD 1 0 % 30) - 15) (3 + (xs.getD 4 0 % ((6 + (xs.getD 2 0 % 10)) - 4)))))), (5, (pB (Sp.sqr ((xs.getD 0 0 % 30) - 15) ((xs.getD 1 0 % 30) - 15) (1 + (xs.getD 5 0 % ((3 + (xs.getD 4 0 % ((6 + (xs.getD 2 0 % 10)) - 4))) - 2))))))] [(2, sV 1 3)] [(0, ⟨(xs.map i64v), 3, false, 1⟩), (1, ⟨[sV 2 4, sV 3 4, sV 4 4], 30, true, 1⟩), (2, (pB (Sp.sqr ((xs.getD 0 0 % 30) - 15) ((xs.getD 1 0 % 30) - 15) (6 + (xs.getD 2 0 % 10))))), (3, (pB (Sp.hol ((xs.getD 0 0 % 30) - 15) ((xs.getD 1 0 % 30) - 15) (3 + (xs.getD 4 0 % ((6 + (xs.getD 2 0 % 10)) - 4)))))), (4, (pB (Sp.sqr ((xs.getD 0 0 % 30) - 15) ((xs.getD 1 0 % 30) - 15) (1 + (xs.getD 5 0 % ((3 + (xs.getD 4 0 % ((6 + (xs.getD 2 0 % 10)) - 4))) - 2))))))] ?_ ⟨rfl, (rK rfl), trivial⟩ ⟨rfl, ⟨rfl, rfl, rfl, (.flats (flats_map (fun _ => rfl) _))⟩, rfl, ⟨rfl, rfl, rfl, (.cons (rK rfl) (.cons (rK rfl) (.cons (rK rfl) .nil)))⟩, rfl, ⟨rfl, rfl, rfl, (.flats (flats_pair _))⟩, rfl, ⟨rfl, rfl, rfl, (.flats (flats_pair _))⟩, rfl, ⟨rfl, rfl, rfl, (.flats (flats_pair _))⟩, trivial⟩
  refine aw_rt ?_
  refine block_ret ?_
  refine then_ret ?_
  exact en_ret [sV 1 3] (by kernel_rfl)
theorem marea_3 (xs : List Int) (hs : xs.getD 3 0 % 4 = 3) :
    AC Try.prog 9 1 ([sV 0 xs.length]) [(0, ⟨(xs.map i64v), 3, false, 1⟩)] (sV 1 2) [(1, ⟨[sV 2 4, sV 3 4], 30, true, 1⟩), (2, (pB (Sp.sqr (xs.getD 0 0 % 30 - 15) (xs.getD 1 0 % 30 - 15) (6 + xs.getD 2 0 % 10)))), (3, (pB (Sp.sqr ((xs.getD 0 0 % 30 - 15) + (6 + xs.getD 2 0 % 10) + 3 + xs.getD 4 0 % 3) (xs.getD 1 0 % 30 - 15) (2))))] := by
  have g0 := Sp.emod_bd (xs.getD 0 0) (n := 30) (by decide); have g1 := Sp.emod_bd (xs.getD 1 0) (n := 30) (by decide); have g2 := Sp.emod_bd (xs.getD 2 0) (n := 10) (by decide); have g4 := Sp.emod_bd (xs.getD 4 0) (n := (6 + xs.getD 2 0 % 10) - 2) (by omega); have g5 := Sp.emod_bd (xs.getD 4 0) (n := (6 + xs.getD 2 0 % 10) - 4) (by omega); have g6 := Sp.emod_bd (xs.getD 4 0) (n := 3) (by decide); have g7 := Sp.emod_bd (xs.getD 5 0) (n := 3 + xs.getD 4 0 % ((6 + xs.getD 2 0 % 10) - 4) - 2) (by omega)
  refine ac_in Try.func9 (fun w0 W pin => ?_)
  refine aw_p 3 (
    .a 1 1 <| .nil _ _) ?_
  refine aw_p 7 (
    .a 4 1 <| .nil _ _) ?_
  refine aw_p 15 (
    .a 1 2 <|
    .p (cF #[.tmp 14, .const (.int .i64 30)] #[69, 3] [.pointer (some ⟨1, 0, none⟩), .int .i64 30] 0 [1, 0] [(1, ⟨[sV 0 xs.length], 71, true, 1⟩), (0, ⟨(xs.map i64v), 3, false, 1⟩)] [(1, ⟨[.slice (some ⟨0, (min 1 xs.length), none⟩) (xs.length - 1) 0], 71, true, 1⟩)] (.int .i64 (xs.getD 0 0 % 30)) (nextz0 xs 30 (by decide) (by decide)) (.cons (.ptr _ _ (by decide)) (.cons rF .nil)) ⟨rfl, ⟨rfl, rfl, rfl, (.cons rS .nil)⟩, rfl, ⟨rfl, rfl, rfl, (.flats (flats_map (fun _ => rfl) _))⟩, trivial⟩ ⟨rfl, ⟨rfl, rfl, rfl, (.cons rS .nil)⟩, trivial⟩ rF) <|
    .p (does_i ((xs.getD 0 0 % 30) - 15) (wrap_i64 (by omega) (by omega)) .i64) <| .a 1 2 <|
    .p (cF #[.tmp 17, .const (.int .i64 30)] #[69, 3] [.pointer (some ⟨1, 0, none⟩), .int .i64 30] 0 [1, 0] [(1, ⟨[.slice (some ⟨0, (min 1 xs.length), none⟩) (xs.length - 1) 0], 71, true, 1⟩), (0, ⟨(xs.map i64v), 3, false, 1⟩)] [(1, ⟨[.slice (some ⟨0, (min 2 xs.length), none⟩) (xs.length - 2) 0], 71, true, 1⟩)] (.int .i64 (xs.getD 1 0 % 30)) (nextz xs 1 30 (by decide) (by decide)) (.cons (.ptr _ _ (by decide)) (.cons rF .nil)) ⟨rfl, ⟨rfl, rfl, rfl, (.cons rS .nil)⟩, rfl, ⟨rfl, rfl, rfl, (.flats (flats_map (fun _ => rfl) _))⟩, trivial⟩ ⟨rfl, ⟨rfl, rfl, rfl, (.cons rS .nil)⟩, trivial⟩ rF) <|
    .p (does_i ((xs.getD 1 0 % 30) - 15) (wrap_i64 (by omega) (by omega)) .i64) <| .a 1 2 <|
    .p (cF #[.tmp 20, .const (.int .i64 10)] #[69, 3] [.pointer (some ⟨1, 0, none⟩), .int .i64 10] 0 [1, 0] [(1, ⟨[.slice (some ⟨0, (min 2 xs.length), none⟩) (xs.length - 2) 0], 71, true, 1⟩), (0, ⟨(xs.map i64v), 3, false, 1⟩)] [(1, ⟨[.slice (some ⟨0, (min 3 xs.length), none⟩) (xs.length - 3) 0], 71, true, 1⟩)] (.int .i64 (xs.getD 2 0 % 10)) (nextz xs 2 10 (by decide) (by decide)) (.cons (.ptr _ _ (by decide)) (.cons rF .nil)) ⟨rfl, ⟨rfl, rfl, rfl, (.cons rS .nil)⟩, rfl, ⟨rfl, rfl, rfl, (.flats (flats_map (fun _ => rfl) _))⟩, trivial⟩ ⟨rfl, ⟨rfl, rfl, rfl, (.cons rS .nil)⟩, trivial⟩ rF) <|
    .p (does_i (6 + (xs.getD 2 0 % 10)) (wrap_i64 (by omega) (by omega)) .i64) <| .a 3 2 <| .nil _ _) ?_
  refine aw_p 31 (
    .a 1 2 <| .nil _ _) ?_
  refine aw_p 63 (
    .a 1 2 <| .nil _ _) ?_
  refine aw_p 127 (
    .a 4 2 <|
    .p (does_callB (x := .tmp 23) (ars := #[.tmp 24, .tmp 25, .tmp 26]) (ats := #[3, 3, 3]) (g := 52) (vs := [.int .i64 ((xs.getD 0 0 % 30) - 15), .int .i64 ((xs.getD 1 0 % 30) - 15), .int .i64 (6 + (xs.getD 2 0 % 10))]) (m := 0) (r := 1) (firsts := #[]) (caps := #[]) (args0 := [.int .i64 ((xs.getD 0 0 % 30) - 15), .int .i64 ((xs.getD 1 0 % 30) - 15), .int .i64 (6 + (xs.getD 2 0 % 10))]) (pre0 := []) (post0 := [(0, (pB (Sp.sqr ((xs.getD 0 0 % 30) - 15) ((xs.getD 1 0 % 30) - 15) (6 + (xs.getD 2 0 % 10)))))]) (pre := []) (post := [(2, (pB (Sp.sqr ((xs.getD 0 0 % 30) - 15) ((xs.getD 1 0 % 30) - 15) (6 + (xs.getD 2 0 % 10)))))]) (v0 := sV 0 4) (v := sV 2 4) [2] (by kernel_rfl) (by kernel_rfl) (by kernel_rfl) (by kernel_rfl) (asq1_ok ((xs.getD 0 0 % 30) - 15) ((xs.getD 1 0 % 30) - 15) (6 + (xs.getD 2 0 % 10)) (by omega) (by omega) (by omega) (by omega) (by omega) (by omega)) (.flats (by kernel_rfl)) trivial (by kernel_rfl) (by kernel_rfl) (by kernel_rfl) ⟨rfl, bP, trivial⟩ rS) <|
    .a 2 3 <| .nil _ _) ?_
  refine aw_sq 254 255 ?_
  refine aw_p 509 (
    .a 1 4 <|
    .p (cF #[.tmp 29, .const (.int .i64 4)] #[69, 3] [.pointer (some ⟨1, 0, none⟩), .int .i64 4] 0 [1, 0] [(1, ⟨[.slice (some ⟨0, (min 3 xs.length), none⟩) (xs.length - 3) 0], 71, true, 1⟩), (0, ⟨(xs.map i64v), 3, false, 1⟩)] [(1, ⟨[.slice (some ⟨0, (min 4 xs.length), none⟩) (xs.length - 4) 0], 71, true, 1⟩)] (.int .i64 (xs.getD 3 0 % 4)) (nextz xs 3 4 (by decide) (by decide)) (.cons (.ptr _ _ (by decide)) (.cons rF .nil)) ⟨rfl, ⟨rfl, rfl, rfl, (.cons rS .nil)⟩, rfl, ⟨rfl, rfl, rfl, (.flats (flats_map (fun _ => rfl) _))⟩, trivial⟩ ⟨rfl, ⟨rfl, rfl, rfl, (.cons rS .nil)⟩, trivial⟩ rF) <| .nil _ _) ?_
  refine aw_bl 0 1019 ?_
  refine aw_p 2039 (
    .p (does_b false ((show ((xs.getD 3 0 % 4) == 1) = false from (by rw [hs]; decide)))) <| .a 1 4 <| .nil _ _) ?_
  refine aw_fl 4079 ?_
  refine aw_p 8159 (
    .p (does_b false ((show ((xs.getD 3 0 % 4) == 2) = false from (by rw [hs]; decide)))) <| .a 1 4 <| .nil _ _) ?_
  refine aw_fl 16319 ?_
  refine aw_p 32639 (
    .p (does_b true ((show ((xs.getD 3 0 % 4) == 3) = true from (by rw [hs]; decide)))) <| .a 1 4 <| .nil _ _) ?_
  refine aw_tr 65278 ?_
  refine aw_p 130557 (
    .a 4 4 <| .p (does_i (((xs.getD 0 0 % 30) - 15) + (6 + (xs.getD 2 0 % 10))) (wrap_i64 (by omega) (by omega)) .i64) <| .p (does_i ((((xs.getD 0 0 % 30) - 15) + (6 + (xs.getD 2 0 % 10))) + 3) (wrap_i64 (by omega) (by omega)) .i64) <| .a 1 4 <|
    .p (cF #[.tmp 77, .const (.int .i64 3)] #[69, 3] [.pointer (some ⟨1, 0, none⟩), .int .i64 3] 0 [1, 0] [(1, ⟨[.slice (some ⟨0, (min 4 xs.length), none⟩) (xs.length - 4) 0], 71, true, 1⟩), (0, ⟨(xs.map i64v), 3, false, 1⟩)] [(1, ⟨[.slice (some ⟨0, (min 5 xs.length), none⟩) (xs.length - 5) 0], 71, true, 1⟩)] (.int .i64 (xs.getD 4 0 % 3)) (nextz xs 4 3 (by decide) (by decide)) (.cons (.ptr _ _ (by decide)) (.cons rF .nil)) ⟨rfl, ⟨rfl, rfl, rfl, (.cons rS .nil)⟩, rfl, ⟨rfl, rfl, rfl, (.flats (flats_map (fun _ => rfl) _))⟩, trivial⟩ ⟨rfl, ⟨rfl, rfl, rfl, (.cons rS .nil)⟩, trivial⟩ rF) <|
    .p (does_i (((((xs.getD 0 0 % 30) - 15) + (6 + (xs.getD 2 0 % 10))) + 3) + (xs.getD 4 0 % 3)) (wrap_i64 (by omega) (by omega)) .i64) <| .a 1 4 <|
    .p (does_callB (x := .tmp 72) (ars := #[.tmp 79, .tmp 80, .const (.int .i64 2)]) (ats := #[3, 3, 3]) (g := 52) (vs := [.int .i64 (((((xs.getD 0 0 % 30) - 15) + (6 + (xs.getD 2 0 % 10))) + 3) + (xs.getD 4 0 % 3)), .int .i64 ((xs.getD 1 0 % 30) - 15), .int .i64 2]) (m := 0) (r := 1) (firsts := #[]) (caps := #[]) (args0 := [.int .i64 (((((xs.getD 0 0 % 30) - 15) + (6 + (xs.getD 2 0 % 10))) + 3) + (xs.getD 4 0 % 3)), .int .i64 ((xs.getD 1 0 % 30) - 15), .int .i64 2]) (pre0 := []) (post0 := [(0, (pB (Sp.sqr (((((xs.getD 0 0 % 30) - 15) + (6 + (xs.getD 2 0 % 10))) + 3) + (xs.getD 4 0 % 3)) ((xs.getD 1 0 % 30) - 15) 2)))]) (pre := []) (post := [(4, (pB (Sp.sqr (((((xs.getD 0 0 % 30) - 15) + (6 + (xs.getD 2 0 % 10))) + 3) + (xs.getD 4 0 % 3)) ((xs.getD 1 0 % 30) - 15) 2)))]) (v0 := sV 0 4) (v := sV 4 4) [4] (by kernel_rfl) (by kernel_rfl) (by kernel_rfl) (by kernel_rfl) (asq1_ok (((((xs.getD 0 0 % 30) - 15) + (6 + (xs.getD 2 0 % 10))) + 3) + (xs.getD 4 0 % 3)) ((xs.getD 1 0 % 30) - 15) 2 (by omega) (by omega) (by omega) (by omega) (by omega) (by omega)) (.flats (by kernel_rfl)) trivial (by kernel_rfl) (by kernel_rfl) (by kernel_rfl) ⟨rfl, bP, trivial⟩ rS) <|
    .a 1 5 <| .p (does_ap 6) <| .a 1 7 <| .nil _ _) ?_
  refine aw_r [(1, 6), (3, 4)] [(2, sV 6 2)] [(0, ⟨(xs.map i64v), 3, false, 1⟩), (6, ⟨[sV 2 4, sV 4 4], 30, true, 1⟩), (2, (pB (Sp.sqr ((xs.getD 0 0 % 30) - 15) ((xs.getD 1 0 % 30) - 15) (6 + (xs.getD 2 0 % 10))))), (4, (pB (Sp.sqr (((((xs.getD 0 0 % 30) - 15) + (6 + (xs.getD 2 0 % 10))) + 3) + (xs.getD 4 0 % 3)) ((xs.getD 1 0 % 30) - 15) 2)))] [(2, sV 1 2)] [(0, ⟨(xs.map i64v), 3, false, 1⟩), (1, ⟨[sV 2 4, sV 3 4], 30, true, 1⟩), (2, (pB (Sp.sqr ((xs.getD 0 0 % 30) - 15) ((xs.getD 1 0 % 30) - 15) (6 + (xs.getD 2 0 % 10))))), (3, (pB (Sp.sqr (((((xs.getD 0 0 % 30) - 15) + (6 + (xs.getD 2 0 % 10))) + 3) + (xs.getD 4 0 % 3)) ((xs.getD 1 0 % 30) - 15) 2)))] ?_ ⟨rfl, (rK rfl), trivial⟩ ⟨rfl, ⟨rfl, rfl, rfl, (.flats (flats_map (fun _ => rfl) _))⟩, rfl, ⟨rfl, rfl, rfl, (.cons (rK rfl) (.cons (rK rfl) .nil))⟩, rfl, ⟨rfl, rfl, rfl, (.flats (flats_pair _))⟩, rfl, ⟨rfl, rfl, rfl, (.flats (flats_pair _))⟩, trivial⟩
  refine aw_rt ?_
  refine block_ret ?_
  refine then_ret ?_
  exact en_ret [sV 1 2] (by kernel_rfl)
end Go.Proofs.Ytndkhgfecnbmnaa.Am

set_option linter.unusedVariables false
set_option linter.unusedSimpArgs false
namespace Go.Proofs.Ytndkhgfecnbmnaa.Am.Sp
def crP (a b c : Int × Int) : Int := crs a.1 a.2 b.1 b.2 c.1 c.2
/-- b lies behind a in the order of points -/
def lxP (a b : Int × Int) : Prop := a.1 < b.1 ∨ (a.1 = b.1 ∧ a.2 < b.2)
theorem lxP.trans {a b c : Int × Int} (h : lxP a b) (k : lxP b c) : lxP a c := by unfold lxP at *; omega
theorem lxP.irr {a : Int × Int} (h : lxP a a) : False := by unfold lxP at h; omega
theorem lxP.tri (a b : Int × Int) : lxP a b ∨ a = b ∨ lxP b a := by
  unfold lxP
  rcases Int.lt_trichotomy a.1 b.1 with h | h | h
  · exact .inl (.inl h)
  · rcases Int.lt_trichotomy a.2 b.2 with k | k | k
    · exact .inl (.inr ⟨h, k⟩)
    · exact .inr (.inl (Prod.ext h k))
    · exact .inr (.inr (.inr ⟨h.symm, k⟩))
  · exact .inr (.inr (.inl h))
theorem mulnnH {a b : Int} (ha : 0 ≤ a) (hb : 0 ≤ b) : 0 ≤ a * b := Int.mul_nonneg ha hb
/-- three vectors: u and v ahead, w not; v and w to the left of u: w to the left of v -/
theorem lex3 {u1 u2 v1 v2 w1 w2 : Int} (hu : 0 < u1 ∨ (u1 = 0 ∧ 0 < u2)) (hv : 0 < v1 ∨ (v1 = 0 ∧ 0 ≤ v2)) (hw : w1 < 0 ∨ (w1 = 0 ∧ w2 ≤ 0)) (hY : 0 ≤ u1 * w2 - u2 * w1) (hZ : 0 ≤ u1 * v2 - u2 * v1) : 0 ≤ v1 * w2 - v2 * w1 := by
  apply Classical.byContradiction
  intro hX
  have e1 : u1 * (v1 * w2 - v2 * w1) = v1 * (u1 * w2 - u2 * w1) + (-w1) * (u1 * v2 - u2 * v1) := by grind
  have e2 : u2 * (v1 * w2 - v2 * w1) = v2 * (u1 * w2 - u2 * w1) + (-w2) * (u1 * v2 - u2 * v1) := by grind
  generalize v1 * w2 - v2 * w1 = X at *
  generalize u1 * w2 - u2 * w1 = Y at *
  generalize u1 * v2 - u2 * v1 = Z at *
  have n1 : 0 ≤ v1 * Y := mulnnH (by omega) hY
  have n2 : 0 ≤ (-w1) * Z := mulnnH (by omega) hZ
  rcases hu with hu | ⟨hu, hu2⟩
  · have : u1 * X < 0 := Int.mul_neg_of_pos_of_neg hu (by omega)
    omega
  · subst hu
    rw [Int.zero_mul] at e1
    have : u2 * X < 0 := Int.mul_neg_of_pos_of_neg hu2 (by omega)
    have z1 : v1 * Y = 0 := by omega
    have z2 : (-w1) * Z = 0 := by omega
    have m1 : 0 ≤ v2 * Y := by
      rcases Int.mul_eq_zero.1 z1 with q | q
      · exact mulnnH (by omega) hY
      · rw [q, Int.mul_zero]; exact Int.le_refl _
    have m2 : 0 ≤ (-w2) * Z := by
      rcases Int.mul_eq_zero.1 z2 with q | q
      · exact mulnnH (by omega) hZ
      · rw [q, Int.mul_zero]; exact Int.le_refl _
    omega
/-- three vectors ahead: left turns follow one another -/
theorem lex3s {u1 u2 v1 v2 w1 w2 : Int} (hu : 0 < u1 ∨ (u1 = 0 ∧ 0 < u2)) (hv : 0 < v1 ∨ (v1 = 0 ∧ 0 < v2)) (hw : 0 < w1 ∨ (w1 = 0 ∧ 0 < w2)) (hR : 0 < u1 * v2 - u2 * v1) (hQ : 0 < v1 * w2 - v2 * w1) : 0 < u1 * w2 - u2 * w1 := by
  apply Classical.byContradiction
  intro hX
  have e1 : v1 * (u1 * w2 - u2 * w1) = u1 * (v1 * w2 - v2 * w1) + w1 * (u1 * v2 - u2 * v1) := by grind
  have e2 : v2 * (u1 * w2 - u2 * w1) = u2 * (v1 * w2 - v2 * w1) + w2 * (u1 * v2 - u2 * v1) := by grind
  rcases hv with hv | ⟨hv, hv2⟩
  · generalize hXX : u1 * w2 - u2 * w1 = X at *
    generalize v1 * w2 - v2 * w1 = Q at *
    generalize u1 * v2 - u2 * v1 = R at *
    have n1 : 0 ≤ u1 * Q := mulnnH (by omega) (by omega)
    have n2 : 0 ≤ w1 * R := mulnnH (by omega) (by omega)
    have n3 : v1 * X ≤ 0 := Int.mul_nonpos_of_nonneg_of_nonpos (by omega) (by omega)
    have z1 : u1 * Q = 0 := by omega
    have z2 : w1 * R = 0 := by omega
    have a1 : u1 = 0 := (Int.mul_eq_zero.1 z1).resolve_right (by omega)
    have a2 : w1 = 0 := (Int.mul_eq_zero.1 z2).resolve_right (by omega)
    subst a1; subst a2
    have : X = 0 := by rw [← hXX]; simp
    subst this
    rw [Int.mul_zero] at e2
    have p1 : 0 < u2 * Q := Int.mul_pos (by omega) hQ
    have p2 : 0 < w2 * R := Int.mul_pos (by omega) hR
    omega
  · subst hv
    simp only [Int.zero_mul, Int.mul_zero, Int.sub_zero, Int.zero_sub] at *
    -- 0 < u1 * v2, 0 < -(v2 * w1)
    have : 0 < v2 * (-w1) := by rw [Int.mul_neg]; exact hQ
    have := Int.pos_of_mul_pos_right this hv2
    omega
theorem crP_vec (a b c : Int × Int) : crP a b c = (b.1 - a.1) * (c.2 - a.2) - (b.2 - a.2) * (c.1 - a.1) := by unfold crP crs; grind
theorem crP_self (a b : Int × Int) : crP a b b = 0 := by unfold crP crs; grind
theorem crP_aba (a b : Int × Int) : crP a b a = 0 := by unfold crP crs; grind
/-- a < b < c turn left, p ≤ b is left of ab: it is left of bc -/
theorem left_behind {a b c p : Int × Int} (hab : lxP a b) (hbc : lxP b c) (hp : lxP p b ∨ p = b) (ht : 0 ≤ crP a b c) (hl : 0 ≤ crP a b p) : 0 ≤ crP b c p := by
  have h := lex3 (u1 := b.1 - a.1) (u2 := b.2 - a.2) (v1 := c.1 - b.1) (v2 := c.2 - b.2) (w1 := p.1 - b.1) (w2 := p.2 - b.2) (by unfold lxP at hab; omega) (by unfold lxP at hbc; omega)
    (by rcases hp with q | q; unfold lxP at q; omega; subst q; omega) (by rw [crP_vec] at hl; grind) (by rw [crP_vec] at ht; grind)
  rw [crP_vec]; exact h
/-- a < b < c < d turn left twice: d is left of ab -/
theorem left_ahead {a b c d : Int × Int} (hab : lxP a b) (hbc : lxP b c) (hcd : lxP c d) (h1 : 0 < crP a b c) (h2 : 0 < crP b c d) : 0 < crP a b d := by
  have h := lex3s (u1 := b.1 - a.1) (u2 := b.2 - a.2) (v1 := c.1 - b.1) (v2 := c.2 - b.2) (w1 := d.1 - c.1) (w2 := d.2 - c.2) (by unfold lxP at hab; omega) (by unfold lxP at hbc; omega) (by unfold lxP at hcd; omega)
    (by rw [crP_vec] at h1; grind) (by rw [crP_vec] at h2; grind)
  rw [crP_vec] at *; grind
/-- b is taken out between a and q: p from a on, that was left of ab, and of bq if behind b, is left of aq -/
theorem left_pop {a b q p : Int × Int} (hab : lxP a b) (hbq : lxP b q) (hp : lxP a p ∨ p = a) (ht : crP a b q ≤ 0) (hl : 0 ≤ crP a b p) (hr : (lxP b p ∨ p = b) → 0 ≤ crP b q p) : 0 ≤ crP a q p := by
  by_cases c : lxP b p ∨ p = b
  · have k := hr c
    have e : crP a q p = crP a b p - crP a b q + crP b q p := by unfold crP crs; grind
    omega
  · -- a ≤ p < b
    have hz := lex3 (u1 := b.1 - a.1) (u2 := b.2 - a.2) (v1 := p.1 - a.1) (v2 := p.2 - a.2) (w1 := -(q.1 - b.1)) (w2 := -(q.2 - b.2)) (by unfold lxP at hab; omega) (by rcases hp with h | h; unfold lxP at h; omega; subst h; omega) (by unfold lxP at hbq; omega)
      (by rw [crP_vec] at ht; grind) (by rw [crP_vec] at hl; grind)
    have e : crP a q p = crP a b p + ((p.1 - a.1) * (-(q.2 - b.2)) - (p.2 - a.2) * (-(q.1 - b.1))) := by unfold crP crs; grind
    omega
end Go.Proofs.Ytndkhgfecnbmnaa.Am.Sp
set_option linter.unusedVariables false
set_option linter.unusedSimpArgs false
namespace Go.Proofs.Ytndkhgfecnbmnaa.Am.Sp
def popC (q : Int × Int) : List (Int × Int) → List (Int × Int)
  | b :: a :: r => if crP a b q ≤ 0 then popC q (a :: r) else b :: a :: r
  | [c] => [c]
  | [] => []
def Ds : List (Int × Int) → Prop
  | b :: a :: r => lxP a b ∧ Ds (a :: r)
  | _ => True
def Tr : List (Int × Int) → Prop
  | c :: b :: a :: r => 0 < crP a b c ∧ Tr (b :: a :: r)
  | _ => True
def Lf (S : List (Int × Int)) : List (Int × Int) → Prop
  | b :: a :: r => (∀ p ∈ S, 0 ≤ crP a b p) ∧ Lf S (a :: r)
  | _ => True
/-- the least of the chain is the least of all -/
def Bt (S : List (Int × Int)) (C : List (Int × Int)) : Prop := ∃ z, C.getLast? = some z ∧ ∀ p ∈ S, p = z ∨ lxP z p
def Tp (S : List (Int × Int)) (C : List (Int × Int)) : Prop := ∃ c r, C = c :: r ∧ ∀ p ∈ S, p = c ∨ lxP p c
structure Chn (S C : List (Int × Int)) : Prop where
  ds : Ds C
  tr : Tr C
  lf : Lf S C
  bt : Bt S C
  tp : Tp S C
  sub : ∀ p ∈ C, p ∈ S
theorem Ds.tail {b : Int × Int} {r : List (Int × Int)} (h : Ds (b :: r)) : Ds r := by
  cases r with
  | nil => trivial
  | cons a r => exact h.2
theorem Tr.tail {b : Int × Int} {r : List (Int × Int)} (h : Tr (b :: r)) : Tr r := by
  cases r with
  | nil => trivial
  | cons a r =>
    cases r with
    | nil => trivial
    | cons z r => exact h.2
theorem Lf.tail {S : List (Int × Int)} {b : Int × Int} {r : List (Int × Int)} (h : Lf S (b :: r)) : Lf S r := by
  cases r with
  | nil => trivial
  | cons a r => exact h.2
theorem Lf.mono {S S' : List (Int × Int)} (hs : ∀ p ∈ S', p ∈ S) : ∀ {C : List (Int × Int)}, Lf S C → Lf S' C
  | b :: a :: r, h => ⟨fun p hp => h.1 p (hs p hp), Lf.mono hs h.2⟩
  | [_], _ => trivial
  | [], _ => trivial
theorem Lf.append {S S' : List (Int × Int)} : ∀ {C : List (Int × Int)}, Lf S C → Lf S' C → Lf (S ++ S') C
  | b :: a :: r, h, k => ⟨fun p hp => (List.mem_append.1 hp).elim (h.1 p) (k.1 p), Lf.append h.2 k.2⟩
  | [_], _, _ => trivial
  | [], _, _ => trivial
theorem Bt.tail {S : List (Int × Int)} {b a : Int × Int} {r : List (Int × Int)} (h : Bt S (b :: a :: r)) : Bt S (a :: r) := by
  obtain ⟨z, h1, h2⟩ := h
  exact ⟨z, by rw [List.getLast?_cons_cons] at h1; exact h1, h2⟩
/-- what lies ahead of a chain that turns left toward it is left of all its edges -/
theorem lf_ahead {q : Int × Int} : ∀ {b a : Int × Int} {r : List (Int × Int)}, Ds (b :: a :: r) → Tr (b :: a :: r) → lxP b q → 0 < crP a b q → Lf [q] (b :: a :: r)
  | b, a, [], hd, ht, hb, h => ⟨fun p hp => by rw [List.mem_singleton.1 hp]; omega, trivial⟩
  | b, a, z :: r, hd, ht, hb, h => by
    refine ⟨fun p hp => by rw [List.mem_singleton.1 hp]; omega, ?_⟩
    exact lf_ahead hd.2 ht.2 (hd.1.trans hb) (left_ahead hd.2.1 hd.1 hb ht.1 h)
theorem pop_chn {S : List (Int × Int)} {q : Int × Int} (hq : ∀ p ∈ S, lxP p q) : ∀ {C : List (Int × Int)}, Ds C → Tr C → Lf S C → Bt S C → (∀ p ∈ C, p ∈ S) → (∀ c r, C = c :: r → ∀ p ∈ S, (lxP c p ∨ p = c) → 0 ≤ crP c q p) →
    Ds (q :: popC q C) ∧ Tr (q :: popC q C) ∧ Lf (S ++ [q]) (q :: popC q C) ∧ Bt (S ++ [q]) (q :: popC q C) ∧ (∀ p ∈ popC q C, p ∈ S)
  | [], hd, ht, hl, hb, hs, hr => by obtain ⟨z, h1, _⟩ := hb; simp at h1
  | [c], hd, ht, hl, hb, hs, hr => by
    have hc := hs c (by simp)
    obtain ⟨z, h1, h2⟩ := hb
    have hz : c = z := by simpa using h1
    subst hz
    refine ⟨⟨hq c hc, trivial⟩, trivial, ⟨fun p hp => ?_, trivial⟩, ⟨c, by simp [popC], fun p hp => ?_⟩, fun p hp => hs p hp⟩
    · rcases List.mem_append.1 hp with k | k
      · refine hr c [] rfl p k ?_
        rcases h2 p k with e | e
        · exact .inr e
        · exact .inl e
      · rw [List.mem_singleton.1 k, crP_self]; exact Int.le_refl _
    · rcases List.mem_append.1 hp with k | k
      · exact h2 p k
      · rw [List.mem_singleton.1 k]; exact .inr (hq c hc)
  | b :: a :: r, hd, ht, hl, hb, hs, hr => by
    have hbs := hs b (by simp)
    by_cases hp : crP a b q ≤ 0
    · rw [popC, if_pos hp]
      refine pop_chn hq hd.2 ht.tail hl.2 hb.tail (fun p h => hs p (List.mem_cons_of_mem _ h)) (fun c r' e p h1 h2 => ?_)
      rw [List.cons.injEq] at e
      obtain ⟨rfl, rfl⟩ := e
      exact left_pop hd.1 (hq b hbs) h2 hp (hl.1 p h1) (fun k => hr b _ rfl p h1 k)
    · rw [popC, if_neg hp]
      have h0 : 0 < crP a b q := by omega
      refine ⟨⟨hq b hbs, hd⟩, ⟨h0, ht⟩, ⟨fun p h => ?_, Lf.append hl (lf_ahead hd ht (hq b hbs) h0)⟩, ?_, hs⟩
      · rcases List.mem_append.1 h with k | k
        · rcases lxP.tri p b with c | c | c
          · exact left_behind hd.1 (hq b hbs) (.inl c) (by omega) (hl.1 p k)
          · exact hr b _ rfl p k (.inr c)
          · exact hr b _ rfl p k (.inl c)
        · rw [List.mem_singleton.1 k, crP_self]; exact Int.le_refl _
      · obtain ⟨z, h1, h2⟩ := hb
        refine ⟨z, by rw [List.getLast?_cons_cons]; exact h1, fun p h => ?_⟩
        rcases List.mem_append.1 h with k | k
        · exact h2 p k
        · have hzs : z ∈ S := hs z (List.mem_of_getLast? h1)
          rw [List.mem_singleton.1 k]; exact .inr (hq z hzs)
theorem Chn.step {S C : List (Int × Int)} {q : Int × Int} (h : Chn S C) (hq : ∀ p ∈ S, lxP p q) : Chn (S ++ [q]) (q :: popC q C) := by
  have k := pop_chn hq h.ds h.tr h.lf h.bt h.sub (fun c r e p h1 h2 => by
    obtain ⟨c', r', e', h3⟩ := h.tp
    rw [e'] at e
    obtain ⟨rfl, rfl⟩ := List.cons.inj e
    rcases h3 p h1 with k | k
    · rw [k, crP_aba]; exact Int.le_refl _
    · rcases h2 with g | g
      · exact (lxP.irr (g.trans k)).elim
      · rw [g, crP_aba]; exact Int.le_refl _)
  refine ⟨k.1, k.2.1, k.2.2.1, k.2.2.2.1, ⟨q, _, rfl, fun p hp => ?_⟩, fun p hp => ?_⟩
  · rcases List.mem_append.1 hp with g | g
    · exact .inr (hq p g)
    · exact .inl (List.mem_singleton.1 g)
  · rcases List.mem_cons.1 hp with g | g
    · subst g; simp
    · exact List.mem_append.2 (.inl (k.2.2.2.2 p g))
/-- a chain of all is one of its own points, and of whatever lies between -/
theorem Chn.less {S S' C : List (Int × Int)} (h : Chn S C) (h1 : ∀ p ∈ S', p ∈ S) (h2 : ∀ p ∈ C, p ∈ S') : Chn S' C := by
  refine ⟨h.ds, h.tr, h.lf.mono h1, ?_, ?_, h2⟩
  · obtain ⟨z, a, b⟩ := h.bt; exact ⟨z, a, fun p hp => b p (h1 p hp)⟩
  · obtain ⟨c, r, a, b⟩ := h.tp; exact ⟨c, r, a, fun p hp => b p (h1 p hp)⟩
end Go.Proofs.Ytndkhgfecnbmnaa.Am.Sp

namespace Go.Proofs.Ytndkhgfecnbmnaa.Am
open Go Go.RowKit
set_option linter.unusedVariables false
def notDefer (o : Oper) : Bool := match o.op with | .defer _ => false | _ => true
theorem notDefer_spec {o : Oper} (h : notDefer o = true) : ∀ c, o.op ≠ .defer c := by
  intro c e; unfold notDefer at h; rw [e] at h; cases h
theorem rows_round {P : Program} {row : String} {args : Array Value} {w : World} {R : Value → World → Prop} {l n : Nat} (h : Rows P row args w R) : RowsIn (Fence.wide.inRound l) n P row args w R :=
  fun c cs _ => let ⟨v, w', r, s⟩ := h c cs; ⟨v, w', r, stepsIn_wide.2 s⟩
theorem oper_round {P : Program} {o : Oper} {a : Act} {w : World} {K : Act → World → Prop} {Q : Exit → Act → World → Prop} {l n : Nat} (hnd : notDefer o = true) (h : o.wp P a w K Q) : o.wpIn (Fence.wide.inRound l) n P a w K Q := by
  refine ⟨fun _ _ => trivial, ?_⟩
  rw [show (Fence.wide.inRound l).round = some l from rfl, Oper.semAt_some _ _ _ (notDefer_spec hnd)]
  unfold Oper.wp at h
  revert h
  generalize (execOp a.eval o).run P w = r
  intro h
  have hd : (Fence.wide.inRound l).depth.isSome = true → 1 ≤ n := fun e => by cases e
  cases r with
  | ok x w' => cases x <;> simp only [Oper.upon, Oper.uponIn] at h ⊢ <;> first | exact h | exact ⟨hd, CallsIn.inRound l (callsIn_wide.2 h)⟩ | exact ⟨hd, rows_round h⟩ | exact h.elim
  | halt x w' => cases x <;> simp only [Oper.upon, Oper.uponIn] at h ⊢ <;> first | exact h | exact h.elim
theorem ops_round {P : Program} {ops : Array Oper} {Q : Exit → Act → World → Prop} {l n : Nat} (hnd : (ops.toList.all notDefer) = true) (hno : ¬ LetsOut Q) : ∀ (is : List Nat) (a : Act) (w : World), wpOps P ops Q is a w → wpOpsIn (Fence.wide.inRound l) n P ops Q is a w
  | [], a, w, h => h
  | i :: is, a, w, h => by
    simp only [wpOps, wpOpsIn] at h ⊢
    cases ho : ops[i]? with
    | none => simp only [ho] at h ⊢; exact ops_round hnd hno is a w h
    | some o =>
      have hn : notDefer o = true := List.all_eq_true.1 hnd o (by rw [← Array.getElem?_toList] at ho; exact List.mem_of_getElem? ho)
      simp only [ho] at h ⊢
      split
      · rename_i hw
        rw [if_pos hw] at h
        rcases h with h | h
        · exact Oper.wpIn_mono (fun a w k => ops_round hnd hno is a w k) (oper_round hn h)
        · exact (hno h.2).elim
      · rename_i hw
        rw [if_neg hw] at h
        exact ⟨fun _ _ => trivial, ops_round hnd hno is _ w h⟩
/-- A code in a round, from a state: it ends normally, in a state that meets K. -/
def AR (C : Ctx) (P : Program) (c : Code) (S : St) (K : St → Prop) : Prop := ∀ (l n : Nat) ρ a w, Rel C ρ S a w → c.wpIn (Fence.wide.inRound l) n P (Lift C fun e S' => e = .normal ∧ K S') a w
section
variable {C : Ctx} {P : Program} {K : St → Prop} {f : Func} {n : Nat} {S S1 : St} {steps : List Step}
theorem no_out {K : St → Prop} : ¬ LetsOut (Lift C fun e S' => e = .normal ∧ K S') := by
  rintro ⟨a, w, ρ, S, h, _⟩; cases h.1
theorem ar_region {id : Nat} {ops : Array Oper} (hd : dstB ops C.n = true) (hn : steps.length = ops.size) (hnd : (ops.toList.all notDefer) = true) (hr : Runs C P ops 0 S steps S1) (hq : K S1) : AR C P (.region id ops false) S K := by
  intro l n ρ a w h
  refine wpIn_region (ops_round hnd no_out _ a w ?_)
  obtain ⟨h1, h2⟩ := runs_spec C P ops (steps := steps) (S0 := S) hr rfl (fun j => by simp)
  refine region_ops (steps := steps) (dst_lt hd) (fun i hi => ?_) h ?_
  · have := h1 i (by omega); simpa using this
  · rw [Nat.zero_add, hn] at h2; rw [← h2]; exact fun ρ' a' w' h' => ⟨ρ', S1, ⟨rfl, hq⟩, h'⟩
theorem ar_seq {x y : Code} (h : AR C P x S (fun S' => AR C P y S' K)) : AR C P (.seq x y) S K := by
  intro l n ρ a w hr
  refine wpIn_seq (wpIn_mono (h l n ρ a w hr) ?_)
  rintro e a' w' ⟨ρ', S', ⟨rfl, h1⟩, h2⟩
  exact h1 l n ρ' a' w' h2
theorem ar_block {x : Code} {id : Nat} (h : AR C P x S K) : AR C P (.block id x) S K := by
  intro l n ρ a w hr
  refine wpIn_block (wpIn_mono (h l n ρ a w hr) ?_)
  rintro e a' w' ⟨ρ', S', ⟨rfl, h1⟩, h2⟩
  exact ⟨ρ', S', ⟨rfl, h1⟩, h2⟩
theorem ar_p (y : Nat) (hr : Runs C P (opsL (sb f n)) 0 S steps S1) (h : AR C P (sb f y) S1 K) (hk : isSR (sb f n) false = true := by kernel_rfl) (hy : rightOf (sb f n) = sb f y := by kernel_rfl)
    (hd : dstB (opsL (sb f n)) C.n = true := by kernel_rfl) (hn : steps.length = (opsL (sb f n)).size := by kernel_rfl) (hnd : ((opsL (sb f n)).toList.all notDefer) = true := by kernel_rfl) : AR C P (sb f n) S K := by
  obtain ⟨id, y', hc⟩ := isSR_spec hk
  have : y' = sb f y := by rw [← hy, hc]; rfl
  subst this
  rw [hc]
  exact ar_seq (ar_region hd hn hnd hr h)
theorem ar_p1 (hr : Runs C P (opsL (sb f n)) 0 S steps S1) (h : K S1) (hk : isR (sb f n) false = true := by kernel_rfl) (hd : dstB (opsL (sb f n)) C.n = true := by kernel_rfl)
    (hn : steps.length = (opsL (sb f n)).size := by kernel_rfl) (hnd : ((opsL (sb f n)).toList.all notDefer) = true := by kernel_rfl) : AR C P (sb f n) S K := by
  obtain ⟨id, hc⟩ := isR_spec hk
  rw [hc]
  exact ar_region hd hn hnd hr h
theorem ar_bl (id x : Nat) (h : AR C P (sb f x) S K) (hk : isBlk (sb f n) id = true := by kernel_rfl) (hx : inOf (sb f n) = sb f x := by kernel_rfl) : AR C P (sb f n) S K := by
  have : sb f n = .block id (sb f x) := by
    rw [← hx]
    generalize sb f n = c at *
    cases c <;> first | cases hk | (rename_i j x; have := Nat.eq_of_beq_eq_true hk; subst this; rfl)
  rw [this]; exact ar_block h
end
def AX (C : Ctx) (P : Program) (c : Code) (S : St) (Q : Exit → Act → World → Prop) : Prop := ∀ ρ a w, Rel C ρ S a w → c.wp P Q a w
theorem ax_seq {C : Ctx} {P : Program} {x y : Code} {S S1 : St} {Q : Exit → Act → World → Prop} (h : AW C P x S (fun e S' => e = .normal ∧ Weak C S' S1)) (k : AX C P y S1 Q) : AX C P (.seq x y) S Q := by
  intro ρ a w hr
  refine wp_seq (wp_mono (h ρ a w hr) ?_)
  rintro e a' w' ⟨ρ', S', ⟨rfl, h1⟩, h2⟩
  obtain ⟨ρ2, h3⟩ := h1 ρ' a' w' h2
  exact k ρ2 a' w' h3
theorem ax_sq {C : Ctx} {P : Program} {f : Func} {n : Nat} {S : St} {Q : Exit → Act → World → Prop} (x y : Nat) (S1 : St) (h : AW C P (sb f x) S (fun e S' => e = .normal ∧ Weak C S' S1)) (k : AX C P (sb f y) S1 Q)
    (hk : isSeq (sb f n) = true := by kernel_rfl) (hx : leftOf (sb f n) = sb f x := by kernel_rfl) (hy : rightOf (sb f n) = sb f y := by kernel_rfl) : AX C P (sb f n) S Q := by
  have : sb f n = .seq (sb f x) (sb f y) := by
    rw [← hx, ← hy]
    generalize sb f n = c at *
    cases c <;> first | rfl | cases hk
  rw [this]; exact ax_seq h k
def mark (D : Nat) : Deferred := { target := .collected D, args := #[] }
/-- How a function is left that has ranged over a function. -/
def AfterQ (P : Program) (fn : Func) (v : Value) (post : List (Nat × Blk)) (w0 : World) (W : Nat → Prop) (m : Nat) (pin : Ren) : Exit → Act → World → Prop := fun e a' w' =>
  ∃ w1 W2 D ρ S, FrameOk w0 W w1 ∧ (∀ b, W2 b → (W b ∨ w0.heap.size ≤ b) ∧ b ≠ D) ∧ w1.heap[D]? = some (.deferred (some [])) ∧ w0.heap.size ≤ D ∧ Rel ⟨w1, W2, fn.ntmps, m, pin, [mark D]⟩ ρ S a' w' ∧ EndQ P fn v post e S
theorem blk_cells {ρ : Ren} {w : World} {sp : Spot} {b : Blk} (k : BlkOk ρ w sp b) (nv : ¬ Void b) : ∃ o : Obj, w.heap[sp.block]? = some o ∧ o.isCells = true := by
  by_cases o : b.own = true
  · rw [BlkOk.own o] at k
    obtain ⟨_, c, h1, _⟩ := k
    exact ⟨_, h1, rfl⟩
  · rw [BlkOk.ro o] at k
    cases hc : b.cells with
    | nil => exact absurd ⟨Bool.eq_false_iff.2 o, hc⟩ nv
    | cons u us =>
      obtain ⟨v, h1, _⟩ := k.2.2 0 u (by rw [hc]; rfl)
      exact cells_of_cell h1
theorem blk_ne {ρ : Ren} {w : World} {sp : Spot} {b : Blk} (k : BlkOk ρ w sp b) (nv : ¬ Void b) {D : Nat} {o : Obj} (h : w.heap[D]? = some o) (ho : o.isCells = false) : sp.block ≠ D := by
  intro e; subst e
  obtain ⟨o', h1, h2⟩ := blk_cells k nv
  rw [h] at h1; cases h1; rw [ho] at h2; cases h2
theorem rel_put {C : Ctx} {ρ : Ren} {S : St} {a : Act} {w : World} (hr : Rel C ρ S a w) {D : Nat} {o : Obj} (o' : Obj) (h : w.heap[D]? = some o) (ho : o.isCells = false) :
    Rel ⟨w.putObj D o', fun _ => True, C.n, C.m, C.pin, C.ds⟩ ρ S a (w.putObj D o') := by
  refine ⟨hr.size, hr.defers, hr.temps, ⟨hr.heap.fresh, fun k b hk => ?_, hr.heap.apart⟩, FrameOk.refl _ _, fun _ _ _ _ _ _ => .inl trivial, hr.pin⟩
  obtain ⟨sp, e1, e2⟩ := hr.heap.live k b hk
  exact ⟨sp, e1, e2.same fun nv => World.putObj_heap_other (blk_ne e2 nv h ho)⟩
theorem acm_intro {P : Program} {f : FuncId} {fn : Func} {c : Code} {m : Nat} {args : List Value} {pre post : List (Nat × Blk)} {v : Value}
    (hf : P.funcs[f]? = some fn) (hb : fn.body = some c) (hn : Nat.ble args.length fn.ntmps = true) (hpo : (post.all fun x => x.2.own) = true)
    (h : ∀ w0 W pin, AX ⟨w0, W, fn.ntmps, m, pin, []⟩ P c (mkSt m (argsT 0 args) pre) (AfterQ P fn v post w0 W m pin)) : AC P f m args pre v post := by
  intro ρ w args' hl ha hp hlow hhigh
  have hle := Nat.le_of_ble_eq_true hn
  have hrel : Rel ⟨w, OwnSet ρ pre, fn.ntmps, m, ρ, []⟩ ρ (mkSt m (argsT 0 args) pre) { tmps := args' ++ Array.replicate (fn.ntmps - args'.size) undef, defers := [] } w := by
    have hdf : ∀ k b, base m k ≠ .live b := fun k b e => by unfold base at e; cases hh : Nat.blt k m <;> rw [hh] at e <;> cases e
    refine ⟨by simp; omega, rfl, fun t u hu => ?_, ⟨fun k hk => ?_, fun k b hk => ?_, ?_⟩, FrameOk.refl _ _, fun k b sp hk ho hsp => ?_, fun k hk => ?_⟩
    · obtain ⟨j, h1, h2⟩ := argsT_mem (ofT_some hu)
      obtain ⟨x, h3, h4⟩ := ha j u h2
      have : t = j := by omega
      subst this
      refine ⟨x, ?_, h4⟩
      obtain ⟨hj, _⟩ := Array.getElem?_eq_some_iff.1 h3
      rw [Array.getElem?_append_left hj]; exact h3
    · have hk2 : ofH (base m k) pre k = .fresh := hk
      refine hhigh k ?_
      rcases Nat.lt_or_ge k m with hlt | hge
      · exfalso
        by_cases hmem : k ∈ pre.map (·.1)
        · obtain ⟨b, hb'⟩ := ofH_key (d := base m k) hmem
          rw [hb'] at hk2; cases hk2
        · rw [ofH_nokey hmem] at hk2
          unfold base at hk2; rw [show Nat.blt k m = true from Nat.ble_eq_true_of_le hlt] at hk2; cases hk2
      · exact hge
    · exact hp.live k b (ofH_live (hdf k) hk)
    · intro k1 k2 b1 b2 sp1 sp2 hne h1 h2 ho nv e1 e2
      exact hp.apart k1 k2 b1 b2 sp1 sp2 hne (ofH_live (hdf k1) h1) (ofH_live (hdf k2) h2) ho nv e1 e2
    · exact .inl ⟨k, b, sp, ofH_live (hdf k) hk, ho, hsp, rfl⟩
    · obtain ⟨sp, hs⟩ := hlow k hk
      exact ⟨sp, hs, hs⟩
  refine callsIn_wide.1 (callsIn_of_wp_marks (n := 0) hf hb trivial (wpIn_wide.2 (wp_mono (h w (OwnSet ρ pre) ρ ρ _ w hrel) ?_)) rfl)
  rintro e a' w' ⟨w1, W2, D, ρ1, S1, hfr, hW2, hD, hDs, hr, he, vs, hvs, rfl, hpost⟩
  have hne : ∀ b, ¬ OwnSet ρ pre b → b < w.heap.size → ¬ W2 b := fun b h1 h2 h3 => by
    rcases (hW2 b h3).1 with h4 | h4
    · exact h1 h4
    · omega
  have hDw : w'.heap[D]? = some (.deferred (some [])) := by
    rw [hr.frame.block D (Array.getElem?_eq_some_iff.1 hD).1 (fun h => (hW2 D h).2 rfl)]; exact hD
  have hr2 := rel_put hr (.deferred none) hDw rfl
  obtain ⟨vs', r1, r2, r3⟩ := resVs_run (P := P) hr2 hvs
  have hres : (results fn a'.tmps).run P (w'.putObj D (.deferred none)) = .ok (if h : vs'.toArray.size = 1 then vs'.toArray[0] else .tuple vs'.toArray) (w'.putObj D (.deferred none)) := by
    rw [results_eq]
    rw [show fn.results = fn.results.toList.toArray from rfl]
    simp only [Sem.run_bind]
    rw [List.mapM_toArray]
    simp only [Sem.run_map]
    rw [r1]
    rfl
  have fin : ∃ v'' ρ', Ending.returned (if h : vs'.toArray.size = 1 then vs'.toArray[0] else .tuple vs'.toArray) = .returned v'' ∧ VRel ρ' (packV vs) v'' ∧ (∀ k, k < m → ρ' k = ρ k) ∧ HOkL ρ' (w'.putObj D (.deferred none)) post ∧
      (∀ k b sp, m ≤ k → (k, b) ∈ post → ρ' k = some sp → w.heap.size ≤ sp.block ∨ OwnSet ρ pre sp.block) ∧ FrameOk w (OwnSet ρ pre) (w'.putObj D (.deferred none)) := by
    refine ⟨_, ρ1, rfl, packV_rel r2 r3, fun k hk => ?_, ⟨fun k b hk => hr2.heap.live k b (hpost.mem hk), fun k k' b b' sp sp' hne h1 h2 ho nv e1 e2 => ?_⟩, fun k b sp _ hk hsp => ?_, ?_⟩
    · obtain ⟨sp, p1, p2⟩ := hr.pin k hk
      have p1' : ρ k = some sp := p1
      rw [p1', p2]
    · exact hr2.heap.apart k k' b b' sp sp' hne (hpost.mem h1) (hpost.mem h2) ho nv e1 e2
    · rcases hr.owned k b sp (hpost.mem hk) (List.all_eq_true.1 hpo (k, b) hk) hsp with h1 | h1
      · exact (hW2 _ h1).1.symm
      · exact .inl (Nat.le_trans hfr.size h1)
    · refine ⟨hr.frame.os.trans hfr.os, hr.frame.tape.trans hfr.tape, hr.frame.output.trans hfr.output, ?_, fun b hb hW => ?_⟩
      · have h1 : w1.heap.size ≤ w'.heap.size := hr.frame.size
        have h2 := hfr.size
        show w.heap.size ≤ (w'.heap.setIfInBounds D _).size
        rw [Array.size_setIfInBounds]; omega
      · rw [World.putObj_heap_other (by omega), hr.frame.block b (Nat.lt_of_lt_of_le hb hfr.size) (hne b hW hb)]
        exact hfr.block b hb hW
  have hds : a'.defers = [mark D] := hr.defers
  rcases he with rfl | rfl
  · show LeavesInM Fence.wide 0 P fn a'.tmps _ a'.defers .returning w'
    rw [hds]
    exact ⟨by simp, .inl ⟨D, _, rfl, run_takeDeferred hDw, ⟨_, hres, fin⟩⟩⟩
  · show LeavesInM Fence.wide 0 P fn a'.tmps _ a'.defers .returning w'
    rw [hds]
    exact ⟨by simp, .inl ⟨D, _, rfl, run_takeDeferred hDw, ⟨_, hres, fin⟩⟩⟩
end Go.Proofs.Ytndkhgfecnbmnaa.Am

namespace Go.Proofs.Ytndkhgfecnbmnaa.Am
open Go Go.RowKit
set_option linter.unusedVariables false
theorem base_dead (m k : Nat) (b : Blk) : base m k ≠ .live b := fun e => by unfold base at e; cases hh : Nat.blt k m <;> rw [hh] at e <;> cases e
theorem mk_live {m : Nat} {T : List (Nat × Value)} {L : List (Nat × Blk)} {k : Nat} {b : Blk} (h : (mkSt m T L).H k = .live b) : (k, b) ∈ L := ofH_live (base_dead m k) h
theorem mk_fresh {m : Nat} {T : List (Nat × Value)} {L : List (Nat × Blk)} {k : Nat} (h : (mkSt m T L).H k = .fresh) : m ≤ k ∧ k ∉ L.map (·.1) := by
  have hk : ofH (base m k) L k = .fresh := h
  by_cases hmem : k ∈ L.map (·.1)
  · obtain ⟨b, hb⟩ := ofH_key (d := base m k) hmem; rw [hb] at hk; cases hk
  · refine ⟨?_, hmem⟩
    rw [ofH_nokey hmem] at hk
    rcases Nat.lt_or_ge k m with hlt | hge
    · unfold base at hk; rw [show Nat.blt k m = true from Nat.ble_eq_true_of_le hlt] at hk; cases hk
    · exact hge
/-- Some blocks are lent: the others are put aside. -/
theorem rel_lend {C : Ctx} {ρ : Ren} {S0 : St} {a : Act} {w : World} (hr : Rel C ρ S0 a w) {m' : Nat} {Tk : List (Nat × Value)} {lent : List (Nat × Blk)} (hmap : ∀ k, k < m' → k < C.m ∨ ∃ b, S0.H k = .live b) (hfr : ∀ k, m' ≤ k → S0.H k = .fresh)
    (hT : AllT S0 Tk) (hL : AllH S0 lent) : Rel ⟨w, OwnSet ρ lent, C.n, m', ρ, C.ds⟩ ρ (mkSt m' Tk lent) a w := by
  refine ⟨hr.size, hr.defers, fun t v hv => hr.temps t v (hT.mem (ofT_some hv)), ⟨fun k hk => hr.heap.fresh k (hfr k (mk_fresh hk).1), fun k b hk => hr.heap.live k b (hL.mem (mk_live hk)), ?_⟩, FrameOk.refl _ _,
    fun k b sp hk ho hsp => .inl ⟨k, b, sp, mk_live hk, ho, hsp, rfl⟩, fun k hk => ?_⟩
  · intro k1 k2 b1 b2 sp1 sp2 hne h1 h2
    exact hr.heap.apart k1 k2 b1 b2 sp1 sp2 hne (hL.mem (mk_live h1)) (hL.mem (mk_live h2))
  · rcases hmap k hk with h | ⟨b, h⟩
    · obtain ⟨sp, _, e⟩ := hr.pin k h; exact ⟨sp, e, e⟩
    · obtain ⟨sp, e, _⟩ := hr.heap.live k b h; exact ⟨sp, e, e⟩
/-- The same relation, from a later world on. -/
theorem rel_now {ws : World} {Ws : Nat → Prop} {nt m' : Nat} {pin : Ren} {ds : List Deferred} {ρ : Ren} {S : St} {a : Act} {W : World} (hr : Rel ⟨ws, Ws, nt, m', pin, ds⟩ ρ S a W) :
    Rel ⟨W, fun b => (Ws b ∨ ws.heap.size ≤ b) ∧ ∃ o : Obj, W.heap[b]? = some o ∧ o.isCells = true, nt, m', pin, ds⟩ ρ S a W := by
  refine ⟨hr.size, hr.defers, hr.temps, hr.heap, FrameOk.refl _ _, fun k b sp hk ho hsp => .inl ⟨hr.owned k b sp hk ho hsp, ?_⟩, hr.pin⟩
  obtain ⟨sp', e, h⟩ := hr.heap.live k b hk
  rw [hsp] at e; cases e
  exact blk_cells h (not_void ho)
theorem rel_then {ws : World} {Ws W2 : Nat → Prop} {nt m' : Nat} {pin : Ren} {ds : List Deferred} {ρ : Ren} {S : St} {a : Act} {W W' : World} (hf : FrameOk ws Ws W) (h2 : ∀ b, W2 b → Ws b ∨ ws.heap.size ≤ b) (hr : Rel ⟨W, W2, nt, m', pin, ds⟩ ρ S a W') :
    Rel ⟨ws, Ws, nt, m', pin, ds⟩ ρ S a W' := by
  refine ⟨hr.size, hr.defers, hr.temps, hr.heap, ⟨hr.frame.os.trans hf.os, hr.frame.tape.trans hf.tape, hr.frame.output.trans hf.output, Nat.le_trans hf.size hr.frame.size, fun b hb hW => ?_⟩, fun k b sp hk ho hsp => ?_, hr.pin⟩
  · have hb' : b < ws.heap.size := hb
    rw [hr.frame.block b (Nat.lt_of_lt_of_le hb hf.size) (fun h => (h2 b h).elim hW (fun h => by omega))]; exact hf.block b hb hW
  · rcases hr.owned k b sp hk ho hsp with h | h
    · exact h2 _ h
    · exact .inr (Nat.le_trans hf.size h)
/-- Another activation's temporaries beside the same blocks. -/
theorem rel_temps {C : Ctx} {ρ : Ren} {m' : Nat} {T T' : List (Nat × Value)} {L : List (Nat × Blk)} {a a' : Act} {W : World} (hr : Rel C ρ (mkSt m' T L) a W) (hs : a'.tmps.size = C.n) (hd : a'.defers = C.ds)
    (ht : ∀ t v, (t, v) ∈ T' → ∃ v', a'.tmps[t]? = some v' ∧ VRel ρ v v') : Rel C ρ (mkSt m' T' L) a' W :=
  ⟨hs, hd, fun t v hv => ht t v (ofT_some hv), hr.heap, hr.frame, hr.owned, hr.pin⟩
theorem rel_grown {ws : World} {Ws : Nat → Prop} {nt m' : Nat} {pin : Ren} {ds : List Deferred} {ρ : Ren} {S : St} {a : Act} {W W' : World} {row : Option Nat} (hr : Rel ⟨ws, Ws, nt, m', pin, ds⟩ ρ S a W) (hg : W.grownBy W' row)
    (hrow : ∀ (r : Nat), row = some r → ws.heap.size ≤ r ∧ ∃ o : Obj, W.heap[r]? = some o ∧ o.isCells = false) : Rel ⟨ws, Ws, nt, m', pin, ds⟩ ρ S a W' := by
  refine ⟨hr.size, hr.defers, hr.temps, ⟨hr.heap.fresh, fun k b hk => ?_, hr.heap.apart⟩, ⟨hg.os.trans hr.frame.os, hg.tape.trans hr.frame.tape, hg.output.trans hr.frame.output, Nat.le_trans hr.frame.size hg.size, fun b hb hW => ?_⟩, hr.owned, hr.pin⟩
  · obtain ⟨sp, e1, e2⟩ := hr.heap.live k b hk
    refine ⟨sp, e1, e2.same fun nv => ?_⟩
    obtain ⟨o, h1, h2⟩ := blk_cells e2 nv
    exact grownBy_keeps_cells hg (fun r e => (hrow r e).2) h1 h2
  · have hb' : b < ws.heap.size := hb
    have hs : ws.heap.size ≤ W.heap.size := hr.frame.size
    rw [hg.block b (by omega) (fun e => by have := (hrow b e.symm).1; omega)]
    exact hr.frame.block b hb hW
theorem wpIn_assign1 {F : Fence} {n : Nat} {P : Program} {id : Nat} {o : Oper} {d : Nat} {src : Operand} {K : Act → World → Prop} {a : Act} {w : World} (l : Nat) (ho : o.op = .assign src) (hd : o.dst = some d) (hg : o.guard = none) (hF : ∀ f, F.fn f)
    (h : K (a.put (some d) (a.eval src)) w) : (Code.region id #[o] false).wpIn (F.inRound l) n P (Exit.then K (fun _ _ _ => False)) a w := by
  refine wpIn_region ?_
  show wpOpsIn (F.inRound l) n P #[o] _ [0] a w
  simp only [wpOpsIn]
  rw [show (#[o])[0]? = some o from rfl]
  simp only
  rw [show Region.wanted o (yielded #[o] a.tmps) = true by unfold Region.wanted; rw [hg]]
  refine ⟨fun f _ => hF f, ?_⟩
  rw [show (F.inRound l).round = some l from rfl, Oper.semAt_some _ _ _ (fun c e => by rw [ho] at e; cases e)]
  have : (execOp a.eval o).run P w = .ok (.value (a.eval src)) w := by simp [execOp, ho, go_sem]
  rw [this, Oper.uponIn_value, hd]
  exact h
/-- What lies behind the loop. -/
theorem rel_after {C : Ctx} {ρs ρ' : Ren} {a a' : Act} {ws w1 : World} {T0 : List (Nat × Value)} {L0 L1 lent Lf : List (Nat × Blk)} {Tk : List (Nat × Value)} {m' D : Nat} {a0 : Act} (hr : Rel C ρs (mkSt C.m T0 L0) a ws)
    (hs : Rel ⟨ws, OwnSet ρs lent, C.n, m', ρs, C.ds⟩ ρ' (mkSt m' Tk Lf) a0 w1) (hm : C.m ≤ m') (hfr : ∀ k, m' ≤ k → (mkSt C.m T0 L0).H k = .fresh) (hL : AllH (mkSt C.m T0 L0) lent) (hlo : ∀ k b, (k, b) ∈ lent → b.own = true)
    (hcT : ∀ t v, (t, v) ∈ T0 → Only (· < m') v) (hcL : ∀ k b, (k, b) ∈ L0 → ∀ u, u ∈ b.cells → Only (· < m') u)
    (hLf : AllH (mkSt m' Tk Lf) Lf) (hLo : ∀ k b, (k, b) ∈ Lf → b.own = true) (hLk : ∀ k b, (k, b) ∈ Lf → k < m' → ∃ b0, (k, b0) ∈ lent) (hkL : ∀ k b0, (k, b0) ∈ lent → ∃ b, (k, b) ∈ Lf)
    (hL1 : ∀ k b, (k, b) ∈ L1 → (k, b) ∈ Lf ∨ ((mkSt C.m T0 L0).H k = .live b ∧ k ∉ lent.map (·.1))) (hL1k : ∀ k, C.m ≤ k → k ∉ L1.map (·.1) → m' ≤ k ∧ k ∉ Lf.map (·.1))
    (hD : w1.heap[D]? = some (.deferred (some []))) (hat : a'.tmps = a.tmps) (had : a'.defers = [mark D]) :
    FrameOk C.w0 C.W w1 ∧ (∀ b, ((C.W b ∨ C.w0.heap.size ≤ b) ∧ b ≠ D) → (C.W b ∨ C.w0.heap.size ≤ b) ∧ b ≠ D) ∧ Rel ⟨w1, fun b => (C.W b ∨ C.w0.heap.size ≤ b) ∧ b ≠ D, C.n, C.m, C.pin, [mark D]⟩ ρ' (mkSt C.m T0 L1) a' w1 := by
  have same : ∀ k, k < m' → ρs k = ρ' k := fun k hk => by obtain ⟨sp, e1, e2⟩ := hs.pin k hk; have e1' : ρs k = some sp := e1; rw [e1', e2]
  have lspot : ∀ b, OwnSet ρs lent b → C.W b ∨ C.w0.heap.size ≤ b := by
    rintro b ⟨k, b0, sp, hm', ho, hsp, rfl⟩
    exact hr.owned k b0 sp (hL.mem hm') ho hsp
  have klt : ∀ k b, (mkSt C.m T0 L0).H k = .live b → k < m' := fun k b h => by
    rcases Nat.lt_or_ge k m' with h1 | h1
    · exact h1
    · rw [hfr k h1] at h; cases h
  have fr1 : FrameOk C.w0 C.W w1 := ⟨hs.frame.os.trans hr.frame.os, hs.frame.tape.trans hr.frame.tape, hs.frame.output.trans hr.frame.output, Nat.le_trans hr.frame.size hs.frame.size, fun b hb hW => by
    rw [hs.frame.block b (Nat.lt_of_lt_of_le hb hr.frame.size) (fun h => (lspot b h).elim hW (fun h => by omega))]; exact hr.frame.block b hb hW⟩
  -- an old block that is not lent lies as it lay
  have old : ∀ k b sp, (mkSt C.m T0 L0).H k = .live b → k ∉ lent.map (·.1) → ρs k = some sp → ¬ Void b → w1.heap[sp.block]? = ws.heap[sp.block]? := by
    intro k b sp hk hn hsp nv
    obtain ⟨sp', e, h⟩ := hr.heap.live k b hk
    rw [hsp] at e; cases e
    refine hs.frame.block _ (h.lt nv) ?_
    rintro ⟨k', b', sp2, hm', ho', hsp', e⟩
    exact hr.heap.apart k' k b' b sp2 sp (fun e => hn (e ▸ List.mem_map.2 ⟨(k', b'), hm', rfl⟩)) (hL.mem hm') hk ho' nv hsp' hsp e
  have okold : ∀ k b, (mkSt C.m T0 L0).H k = .live b → k ∉ lent.map (·.1) → ∃ sp, ρ' k = some sp ∧ BlkOk ρ' w1 sp b := by
    intro k b hk hn
    obtain ⟨sp, e, h⟩ := hr.heap.live k b hk
    refine ⟨sp, by rw [← same k (klt k b hk)]; exact e, ?_⟩
    have h2 := h.same (w' := w1) (old k b sp hk hn e)
    exact h2.map rfl rfl rfl (Nat.le_refl _) (fun i u hu => ⟨u, hu, fun v r => r.congr (hcL k b (mk_live hk) u (List.mem_of_getElem? hu)) same⟩)
  have oknew : ∀ k b, (k, b) ∈ Lf → ∃ sp, ρ' k = some sp ∧ BlkOk ρ' w1 sp b := fun k b hk => hs.heap.live k b (hLf.mem hk)
  have okall : ∀ k b, (mkSt C.m T0 L1).H k = .live b → ∃ sp, ρ' k = some sp ∧ BlkOk ρ' w1 sp b := fun k b hk => by
    rcases hL1 k b (mk_live hk) with h | ⟨h1, h2⟩
    · exact oknew k b h
    · exact okold k b h1 h2
  -- a block of the loop's and an old one
  have mix : ∀ k k' b b' sp sp', (k, b) ∈ Lf → (mkSt C.m T0 L0).H k' = .live b' → k' ∉ lent.map (·.1) → ¬ Void b' → ρ' k = some sp → ρ' k' = some sp' → sp.block ≠ sp'.block := by
    intro k k' b b' sp sp' hk hk' hn nv hsp hsp'
    have e' : ρs k' = some sp' := by rw [same k' (klt k' b' hk')]; exact hsp'
    obtain ⟨sp2, e2, h2⟩ := hr.heap.live k' b' hk'
    rw [e'] at e2; cases e2
    have lentne : ∀ k2 b2 sp2, (k2, b2) ∈ lent → ρs k2 = some sp2 → sp2.block ≠ sp'.block := fun k2 b2 sp2 hm2 hs2 =>
      hr.heap.apart k2 k' b2 b' sp2 sp' (fun e => hn (e ▸ List.mem_map.2 ⟨(k2, b2), hm2, rfl⟩)) (hL.mem hm2) hk' (hlo k2 b2 hm2) nv hs2 e'
    rcases Nat.lt_or_ge k m' with hlt | hge
    · obtain ⟨b0, hb0⟩ := hLk k b hk hlt
      exact lentne k b0 sp hb0 (by rw [same k hlt]; exact hsp)
    · rcases hs.owned k b sp (hLf.mem hk) (hLo k b hk) hsp with h | h
      · obtain ⟨k2, b2, sp2, hm2, ho2, hs2, e⟩ := h
        intro e3
        exact lentne k2 b2 sp2 hm2 hs2 (e.trans e3)
      · have := h2.lt nv
        have h' : ws.heap.size ≤ sp.block := h
        omega
  refine ⟨fr1, fun _ h => h, ⟨by rw [hat]; exact hr.size, had, fun t v hv => ?_, ⟨fun k hk => ?_, okall, ?_⟩, FrameOk.refl _ _, fun k b sp hk ho hsp => .inl ?_, fun k hk => ?_⟩⟩
  · obtain ⟨v', h1, h2⟩ := hr.temps t v hv
    exact ⟨v', by rw [hat]; exact h1, h2.congr (hcT t v (ofT_some hv)) same⟩
  · obtain ⟨h1, h2⟩ := mk_fresh hk
    obtain ⟨h3, h4⟩ := hL1k k h1 h2
    refine hs.heap.fresh k ?_
    show ofH (base m' k) Lf k = .fresh
    rw [ofH_nokey h4]; unfold base
    rw [show Nat.blt k m' = false by cases hb : Nat.blt k m' with | false => rfl | true => exact absurd (Nat.le_of_ble_eq_true hb) (by omega)]; rfl
  · intro k1 k2 b1 b2 sp1 sp2 hne h1 h2 ho nv e1 e2
    rcases hL1 k1 b1 (mk_live h1) with g1 | ⟨g1, n1⟩ <;> rcases hL1 k2 b2 (mk_live h2) with g2 | ⟨g2, n2⟩
    · exact hs.heap.apart k1 k2 b1 b2 sp1 sp2 hne (hLf.mem g1) (hLf.mem g2) ho nv e1 e2
    · exact mix k1 k2 b1 b2 sp1 sp2 g1 g2 n2 nv e1 e2
    · exact (mix k2 k1 b2 b1 sp2 sp1 g2 g1 n1 (not_void ho) e2 e1).symm
    · exact hr.heap.apart k1 k2 b1 b2 sp1 sp2 hne g1 g2 ho nv (by rw [same k1 (klt k1 b1 g1)]; exact e1) (by rw [same k2 (klt k2 b2 g2)]; exact e2)
  · obtain ⟨sp', e, h⟩ := okall k b hk
    rw [hsp] at e; cases e
    refine ⟨?_, blk_ne h (not_void ho) hD rfl⟩
    rcases hL1 k b (mk_live hk) with g | ⟨g, n⟩
    · rcases hs.owned k b sp (hLf.mem g) (hLo k b g) hsp with h | h
      · exact lspot _ h
      · exact .inr (Nat.le_trans hr.frame.size h)
    · exact hr.owned k b sp g ho (by rw [same k (klt k b g)]; exact hsp)
  · obtain ⟨sp, e1, e2⟩ := hr.pin k hk
    exact ⟨sp, e1, by rw [← same k (Nat.lt_of_lt_of_le hk hm)]; exact e2⟩
/-- The iterator's contract: its box and its row, wherever they lie. -/
def ItOk (P : Program) (gf len : Nat) (fin_ : List (Fin len)) : Prop := ∀ (Bs bo b off cap : Nat) (vs : Fin len → Value) (Kp : World → World → Prop), (∀ {A B C : World}, Kp A B → Kp B C → Kp A C) → (∀ A, Kp A A) →
  (∀ {A B : World} {p : Addr}, Kp A B → p.block = Bs ∨ p.block = b → B.cell? p = A.cell? p) → ∀ (w : World), Bs < w.heap.size → b < w.heap.size → w.cell? ⟨Bs, bo, none⟩ = some (.slice (some ⟨b, off, none⟩) len cap) →
  (∀ j : Fin len, w.cell? ⟨b, off + j.val, none⟩ = some (vs j)) →
    SeqStopsK Fence.wide 2 P gf #[.pointer (some ⟨Bs, bo, none⟩)] (fun x : Fin len => #[Value.int .i64 ((x.val : Nat) : Int), vs x]) Kp (fun ys => ys = fin_) (fun _ => True) len w
theorem cell_heap {A B : World} {p : Addr} (h : B.heap[p.block]? = A.heap[p.block]?) : B.cell? p = A.cell? p := by rw [World.cell?, World.cell?]; simp only [h]
theorem wp_range {C : Ctx} {P : Program} {ρs : Ren} {a : Act} {ws : World} {T0 : List (Nat × Value)} {L0 L1 lent : List (Nat × Blk)} {Tk : List (Nat × Value)} {m' g p0 p1 d gf len : Nat} {oa : Oper} {ida : Nat} {body : Code} {fin_ : List (Fin len)}
    {Lr : List (Fin len) → List (Nat × Blk)} {us : Fin len → Value} {ki kr ko co : Nat} {bi br : Blk} {Q : Exit → Act → World → Prop} (hds : C.ds = []) (hr : Rel C ρs (mkSt C.m T0 L0) a ws)
    (hit : ItOk P gf len fin_) (eg : ∀ args w, (callFunc gf args).run P w = .ok (.enter gf args) w) (hpos : 0 < len)
    (hg : (mkSt C.m T0 L0).T g = some (.func (.func gf) #[] #[.pointer (some ⟨ki, 0, none⟩)])) (hki : (mkSt C.m T0 L0).H ki = .live bi) (hbi : bi.cells = [.slice (some ⟨kr, ko, none⟩) len co]) (hkr : (mkSt C.m T0 L0).H kr = .live br)
    (hbr : ∀ j : Fin len, br.cells[ko + j.val]? = some (us j)) (hki2 : ki ∉ lent.map (·.1)) (hkr2 : kr ∉ lent.map (·.1))
    (ho : oa.op = .assign (.tmp p1)) (hod : oa.dst = some d) (hog : oa.guard = none) (hp : p0 < C.n ∧ p1 < C.n ∧ d < C.n ∧ p0 ≠ p1 ∧ d ≠ p0 ∧ d ≠ p1)
    (hm : C.m ≤ m') (hmap : ∀ k, k < m' → k < C.m ∨ ∃ b, (mkSt C.m T0 L0).H k = .live b) (hfr : ∀ k, m' ≤ k → (mkSt C.m T0 L0).H k = .fresh)
    (hTk : AllT (mkSt C.m T0 L0) Tk) (hTkd : ∀ t v, (t, v) ∈ Tk → t ≠ p0 ∧ t ≠ p1 ∧ t ≠ d) (hL : AllH (mkSt C.m T0 L0) lent) (hlo : ∀ k b, (k, b) ∈ lent → b.own = true) (hLr0 : Lr [] = lent)
    (hcT : ∀ t v, (t, v) ∈ T0 → Only (· < m') v) (hcL : ∀ k b, (k, b) ∈ L0 → ∀ u, u ∈ b.cells → Only (· < m') u)
    (hbody : ∀ (w0 : World) (W : Nat → Prop) (pin : Ren) (pre : List (Fin len)) (x : Fin len), pre.length < len → AR ⟨w0, W, C.n, m', pin, []⟩ P body (mkSt m' ((d, us x) :: Tk) (Lr pre)) (fun S' => Weak ⟨w0, W, C.n, m', pin, []⟩ S' (mkSt m' [] (Lr (pre ++ [x])))))
    (hLf : AllH (mkSt m' Tk (Lr fin_)) (Lr fin_)) (hLo : ∀ k b, (k, b) ∈ Lr fin_ → b.own = true) (hLk : ∀ k b, (k, b) ∈ Lr fin_ → k < m' → ∃ b0, (k, b0) ∈ lent) (hkL : ∀ k b0, (k, b0) ∈ lent → ∃ b, (k, b) ∈ Lr fin_)
    (hL1 : ∀ k b, (k, b) ∈ L1 → (k, b) ∈ Lr fin_ ∨ ((mkSt C.m T0 L0).H k = .live b ∧ k ∉ lent.map (·.1))) (hL1k : ∀ k, C.m ≤ k → k ∉ L1.map (·.1) → m' ≤ k ∧ k ∉ (Lr fin_).map (·.1))
    (hQ : ∀ (D : Nat) (ρ' : Ren) (w1 : World), FrameOk C.w0 C.W w1 → w1.heap[D]? = some (.deferred (some [])) → ws.heap.size ≤ D → Rel ⟨w1, fun b => (C.W b ∨ C.w0.heap.size ≤ b) ∧ b ≠ D, C.n, C.m, C.pin, [mark D]⟩ ρ' (mkSt C.m T0 L1) { a with defers := [mark D] } w1 →
      Q .normal { a with defers := [mark D] } w1) : (Code.rangeFunc (.tmp g) #[p0, p1] (.region ida #[oa] false) body).wp P Q a ws := by
  have hs0 := rel_lend hr hmap hfr hTk hL
  rw [hds] at hs0
  -- the function value, the box, the row
  obtain ⟨vg, hg1, hg2⟩ := hr.temps g _ hg
  obtain ⟨spi, ei, oki⟩ := hr.heap.live ki bi hki
  obtain ⟨spr, er, okr⟩ := hr.heap.live kr br hkr
  have hgv : vg = .func (.func gf) #[] #[.pointer (some ⟨spi.block, spi.off + 0, none⟩)] := by
    cases hg2 with
    | func _ xs ys cs ds e hv e' hv' =>
      have h1 : ys = #[] := Array.eq_empty_of_size_eq_zero e.symm
      subst h1
      have h2 := hv' 0 (by simp)
      have h3 : ds.size = 1 := e'.symm
      have h4 : ds = #[ds[0]] := by
        apply Array.ext
        · simp [h3]
        · intro i hi _; obtain rfl : i = 0 := by omega
          rfl
      rw [h4]
      generalize ds[0] = z at h2 ⊢
      have h2' : VRel ρs (.pointer (some ⟨ki, 0, none⟩)) z := h2
      cases h2' with
      | ptr _ _ sp hsp => rw [ei] at hsp; cases hsp; rfl
  have cellOf : ∀ (sp : Spot) (b : Blk) (i : Nat) (u : Value), BlkOk ρs ws sp b → b.cells[i]? = some u → ∃ v, ws.cell? ⟨sp.block, sp.off + i, none⟩ = some v ∧ VRel ρs u v := by
    intro sp b i u h hu
    by_cases o : b.own = true
    · rw [BlkOk.own o] at h
      obtain ⟨_, c, h1, _, _, h5⟩ := h
      obtain ⟨v, h6, h7⟩ := h5 i u hu
      refine ⟨v, ?_, h7⟩
      rw [World.cell?]; simp only [h1]; exact h6
    · rw [BlkOk.ro o] at h; exact h.2.2 i u hu
  obtain ⟨vb, hb1, hb2⟩ := cellOf spi bi 0 _ oki (by rw [hbi]; rfl)
  obtain ⟨off, cap, hvb, hoff⟩ : ∃ off cap, vb = .slice (some ⟨spr.block, off, none⟩) len cap ∧ off = spr.off + ko := by
    cases hb2 with
    | slice _ _ _ _ cap sp hsp => rw [er] at hsp; cases hsp; exact ⟨_, cap, rfl, rfl⟩
    | slice0 => omega
  subst hvb
  have hrow : ∀ j : Fin len, ∃ v, ws.cell? ⟨spr.block, off + j.val, none⟩ = some v ∧ VRel ρs (us j) v := fun j => by
    obtain ⟨v, h1, h2⟩ := cellOf spr br _ _ okr (hbr j)
    exact ⟨v, by rw [hoff, Nat.add_assoc]; exact h1, h2⟩
  obtain ⟨vs, hvs⟩ := Classical.axiomOfChoice hrow
  have nvi : ¬ Void bi := fun v => by have := v.2; rw [hbi] at this; cases this
  have nvr : ¬ Void br := fun v => by have := hbr ⟨0, hpos⟩; rw [v.2] at this; cases this
  have notl : ∀ k b sp, (mkSt C.m T0 L0).H k = .live b → k ∉ lent.map (·.1) → ρs k = some sp → ¬ Void b → ¬ OwnSet ρs lent sp.block := by
    rintro k b sp hk hn hsp nv ⟨k', b', sp', hm', ho', hsp', e⟩
    exact hr.heap.apart k' k b' b sp' sp (fun e => hn (e ▸ List.mem_map.2 ⟨(k', b'), hm', rfl⟩)) (hL.mem hm') hk ho' nv hsp' hsp e
  have ni := notl ki bi spi hki hki2 ei nvi
  have nr := notl kr br spr hkr hkr2 er nvr
  have li := oki.lt nvi
  have lr := okr.lt nvr
  have hgev : a.eval (.tmp g) = .func (.func gf) #[] #[.pointer (some ⟨spi.block, spi.off + 0, none⟩)] := by
    show a.tmps.getD g undef = _
    rw [Array.getD_eq_getD_getElem?, hg1, hgv]; rfl
  have hdef : a.defers = [] := hr.defers.trans hds
  have hsz : a.tmps.size = C.n := hr.size
  refine (wpIn_wide (n := 3)).1 (wpIn_rangeFunc_ownF (F := Fence.wide) (n := 3) (α := Fin len) (w0 := ws) (gf := gf) (lb := #[.pointer (some ⟨spi.block, spi.off + 0, none⟩)]) rfl (by decide) hgev trivial eg
    (encs := fun x : Fin len => #[Value.int .i64 ((x.val : Nat) : Int), vs x]) (Kp := fun A B : World => ∀ b, b < ws.heap.size → ¬ OwnSet ρs lent b → B.heap[b]? = A.heap[b]?) (S := fun ys => ys = fin_) (Sp := fun _ => True) (N := len)
    (hit spi.block (spi.off + 0) spr.block off cap vs _ (fun h k b hb hn => (k b hb hn).trans (h b hb hn)) (fun _ _ _ _ => rfl) (fun {A B p} h e => cell_heap (by rcases e with e | e <;> rw [e]; exact h _ li ni; exact h _ lr nr)) ws li lr hb1 (fun j => (hvs j).1))
    (fun h k b hb hn => (k b hb hn).trans (h b hb hn)) (fun W l o o' hl _ _ _ b hb _ => World.putObj_heap_other (by omega)) (Below.refl _ _) (fun _ => rfl)
    (fun pre W => ∃ ρ', Rel ⟨ws, OwnSet ρs lent, C.n, m', ρs, []⟩ ρ' (mkSt m' Tk (Lr pre)) ⟨a.tmps, []⟩ W) (fun _ _ _ => False)
    (fun pre W W' row ⟨ρ', hR⟩ hg hrw => ⟨ρ', rel_grown hR hg hrw⟩) (fun _ _ _ _ _ hs _ _ => hs) ⟨ρs, rel_temps (by rw [hLr0]; exact hs0) hsz rfl (fun t v hm => hr.temps t v (hTk.mem hm))⟩
    (fun x => ({ tmps := ((#[p0, p1] : Array Tmp).zip #[Value.int .i64 ((x.val : Nat) : Int), vs x]).foldl (fun t (p, v) => t.setIfInBounds p v) a.tmps, defers := [] } : Act).put (some d) (({ tmps := ((#[p0, p1] : Array Tmp).zip #[Value.int .i64 ((x.val : Nat) : Int), vs x]).foldl (fun t (p, v) => t.setIfInBounds p v) a.tmps, defers := [] } : Act).eval (.tmp p1)))
    (fun l x W K hK => wpIn_assign1 l ho hod hog (fun _ => trivial) hK) ?body ?done (fun _ _ _ _ _ _ h _ => h.elim))
  case body =>
    rintro l pre x W ⟨ρ', hR⟩ hlen
    have same : ∀ k, k < m' → ρs k = ρ' k := fun k hk => by obtain ⟨sp, e1, e2⟩ := hR.pin k hk; have e1' : ρs k = some sp := e1; rw [e1', e2]
    have hR2 := rel_now hR
    have hB := hbody W _ ρs pre x hlen l 1 ρ' (({ tmps := ((#[p0, p1] : Array Tmp).zip #[Value.int .i64 ((x.val : Nat) : Int), vs x]).foldl (fun t (p, v) => t.setIfInBounds p v) a.tmps, defers := [] } : Act).put (some d) (({ tmps := ((#[p0, p1] : Array Tmp).zip #[Value.int .i64 ((x.val : Nat) : Int), vs x]).foldl (fun t (p, v) => t.setIfInBounds p v) a.tmps, defers := [] } : Act).eval (.tmp p1))) W (rel_temps hR2 (by simp [Act.put, hsz]) rfl (fun t v hm => ?_))
    · refine wpIn_mono hB ?_
      rintro e a3 W3 ⟨ρ2, S2, ⟨rfl, hw⟩, hR4⟩
      obtain ⟨ρ3, hR5⟩ := hw ρ2 a3 W3 hR4
      have same3 : ∀ k, k < m' → ρs k = ρ3 k := fun k hk => by obtain ⟨sp, e1, e2⟩ := hR5.pin k hk; have e1' : ρs k = some sp := e1; rw [e1', e2]
      refine ⟨⟨hR5.frame.size, fun k o hk hoc => ?_⟩, fun b hb hn => ?_, ρ3, ?_⟩
      · rw [← hk]
        refine hR5.frame.block k (Array.getElem?_eq_some_iff.1 hk).1 ?_
        rintro ⟨_, o', h1, h2⟩
        have h1' : W.heap[k]? = some o' := h1
        rw [hk] at h1'; cases h1'; rw [hoc] at h2; cases h2
      · have hbW : b < W.heap.size := Nat.lt_of_lt_of_le hb hR.frame.size
        exact hR5.frame.block b hbW (fun h => h.1.elim hn (fun h' => by omega))
      · exact rel_temps (rel_then hR.frame (fun b h => h.1) hR5) hsz rfl (fun t v hm => by
          have h0 := hTk.mem hm
          obtain ⟨v', h1, h2⟩ := hr.temps t v h0
          exact ⟨v', h1, h2.congr (hcT t v (ofT_some h0)) same3⟩)
    · have e1 : (((#[p0, p1] : Array Tmp).zip #[Value.int .i64 ((x.val : Nat) : Int), vs x]).foldl (fun t (p, v) => t.setIfInBounds p v) a.tmps) = (a.tmps.setIfInBounds p0 (Value.int .i64 ((x.val : Nat) : Int))).setIfInBounds p1 (vs x) := by simp
      rw [e1]
      obtain ⟨hp0, hp1, hpd, h01, hd0, hd1⟩ := hp
      have e2 : (({ tmps := (a.tmps.setIfInBounds p0 (Value.int .i64 ((x.val : Nat) : Int))).setIfInBounds p1 (vs x), defers := [] } : Act).eval (.tmp p1)) = vs x := by
        show ((a.tmps.setIfInBounds p0 _).setIfInBounds p1 (vs x)).getD p1 undef = vs x
        rw [Array.getD_eq_getD_getElem?, Array.getElem?_setIfInBounds_self_of_lt (by simp; omega)]; rfl
      rw [e2]
      show ∃ v', (((a.tmps.setIfInBounds p0 _).setIfInBounds p1 (vs x)).setIfInBounds d (vs x))[t]? = some v' ∧ VRel ρ' v v'
      rcases List.mem_cons.1 hm with h | h
      · cases h
        refine ⟨vs x, Array.getElem?_setIfInBounds_self_of_lt (by simp; omega), ((hvs x).2).congr (hcL kr br (mk_live hkr) _ (List.mem_of_getElem? (hbr x))) same⟩
      · obtain ⟨t0, t1, td⟩ := hTkd t v h
        have h0 := hTk.mem h
        obtain ⟨v', h1, h2⟩ := hr.temps t v h0
        refine ⟨v', ?_, h2.congr (hcT t v (ofT_some h0)) same⟩
        rw [Array.getElem?_setIfInBounds_ne (Ne.symm td), Array.getElem?_setIfInBounds_ne (Ne.symm t1), Array.getElem?_setIfInBounds_ne (Ne.symm t0)]; exact h1
  case done =>
    rintro D xs W hD rfl ⟨ρ', hR⟩ hK
    have hE := rel_after (a' := { a with defers := [mark D] }) hr (by rw [hds]; exact hR) hm hfr hL hlo hcT hcL hLf hLo hLk hkL hL1 hL1k hK rfl rfl
    rw [hdef]
    exact hQ D ρ' W hE.1 hK hD hE.2.2
end Go.Proofs.Ytndkhgfecnbmnaa.Am
