/-
  The walks of the document's own functions of points.
-/
import Derived.Test.YtadifmimefmcnaaProg
import Derived.Test.YtadifmimefmcnaaAm16
import Derived.Test.YtadifmimefmcnaaSp6
import Derived.Test.YtadifmimefmcnaaPt1
namespace Go.Proofs.Ytadifmimefmcnaa.Am
open Go Go.Proofs
set_option maxRecDepth 100000
set_option maxHeartbeats 4000000
set_option linter.unusedVariables false
set_option linter.unusedSimpArgs false

theorem rwithin_ok (n m : Int) (h0 : 0 ≤ m) (h1 : m ≤ 4611686018427387904) :
    AC Try.prog 88 0 ([.int .i64 n, .int .i64 m]) [] (.int .i64 (Sp.lim m n)) [] := by
  refine ac_in Try.func88 (fun w0 W pin => ?_)
  refine aw_p 3 (
    .a 1 1 <| .nil _ _) ?_
  refine aw_sq 6 7 ?_
  refine aw_bl 0 13 ?_
  refine aw_p 27 (
    .a 4 1 <| .nil _ _) ?_
  refine aw_cd 54 55 (decide (n > m)) (fun h1 => ?_) (fun h1 => ?_)
  · have h1p : ((n > m)) := by first | (simpa using h1) | (have h1q := h1; simp at h1q; omega) | (have h1q := bx1 h1; simp at h1q; omega)
    refine aw_p 109 (
      .a 2 1 <| .nil _ _) ?_
    refine aw_rt ?_
    refine block_ret ?_
    refine then_ret ?_
    exact en_ret [.int .i64 m] (show (.int .i64 m : Value) = (.int .i64 (Sp.lim m n)) from (congrArg (Value.int .i64) (show m = (Sp.lim m n) from by (first | rfl | (simp only [Sp.lim, Sp.cmp, Sp.sgn]; (repeat' split) <;> omega)))))
  · have h1p : ¬ ((n > m)) := by first | (simpa using h1) | (have h1q := h1; simp at h1q; omega) | (have h1q := bx2 h1; simp at h1q; omega)
    refine aw_p 111 (
      .a 2 1 <| .p (does_i (0 - m) (wrap_i64 (by omega) (by omega)) .i64) <| .a 2 1 <| .nil _ _) ?_
    refine aw_cd 222 223 (decide (n < (0 - m))) (fun h2 => ?_) (fun h2 => ?_)
    · have h2p : ((n < (0 - m))) := by first | (simpa using h2) | (have h2q := h2; simp at h2q; omega) | (have h2q := bx1 h2; simp at h2q; omega)
      refine aw_p 445 (
        .a 1 1 <| .p (does_i (0 - m) (wrap_i64 (by omega) (by omega)) .i64) <| .a 1 1 <| .nil _ _) ?_
      refine aw_rt ?_
      refine block_ret ?_
      refine then_ret ?_
      exact en_ret [.int .i64 (0 - m)] (show (.int .i64 (0 - m) : Value) = (.int .i64 (Sp.lim m n)) from (congrArg (Value.int .i64) (show (0 - m) = (Sp.lim m n) from by (first | rfl | (simp only [Sp.lim, Sp.cmp, Sp.sgn]; (repeat' split) <;> omega)))))
    · have h2p : ¬ ((n < (0 - m))) := by first | (simpa using h2) | (have h2q := h2; simp at h2q; omega) | (have h2q := bx2 h2; simp at h2q; omega)
      refine aw_sk ?_
      refine block_normal ?_
      refine then_normal ?_
      refine aw_p 15 (
        .a 2 1 <| .nil _ _) ?_
      refine aw_rt ?_
      exact en_ret [.int .i64 n] (show (.int .i64 n : Value) = (.int .i64 (Sp.lim m n)) from (congrArg (Value.int .i64) (show n = (Sp.lim m n) from by (first | rfl | (simp only [Sp.lim, Sp.cmp, Sp.sgn]; (repeat' split) <;> omega)))))

theorem rvalid_ok (x y : Int) :
    AC Try.prog 42 0 ([.agg #[.int .i64 x, .int .i64 y]]) [] (.agg #[.int .i64 (Sp.lim 1048576 x), .int .i64 (Sp.lim 1048576 y)]) [] := by
  refine ac_in Try.func42 (fun w0 W pin => ?_)
  refine aw_p 3 (
    .a 2 1 <| .nil _ _) ?_
  refine aw_d 7 (
    .a 2 3 <| .p (does_c (rwithin_ok x 1048576 (by decide) (by decide))) <| .a 2 3 <| .p (does_c (rwithin_ok y 1048576 (by decide) (by decide))) <| .a 2 3 <| .nil _ _) ?_
  refine aw_rt ?_
  exact en_ret [.agg #[.int .i64 (Sp.lim 1048576 x), .int .i64 (Sp.lim 1048576 y)]] (by kernel_rfl)

theorem risvalid_ok (x y : Int) :
    AC Try.prog 60 0 ([.agg #[.int .i64 x, .int .i64 y]]) [] (.bool ((x == (Sp.lim 1048576 x)) && ((y == (Sp.lim 1048576 y)) && true))) [] := by
  refine ac_in Try.func60 (fun w0 W pin => ?_)
  refine aw_p 3 (
    .a 2 1 <| .nil _ _) ?_
  refine aw_d 7 (
    .a 2 2 <| .p (does_c (rvalid_ok x y)) <| .p (does_e ((x == (Sp.lim 1048576 x)) && ((y == (Sp.lim 1048576 y)) && true)) (rfl)) <| .a 1 2 <| .nil _ _) ?_
  refine aw_rt ?_
  exact en_ret [.bool ((x == (Sp.lim 1048576 x)) && ((y == (Sp.lim 1048576 y)) && true))] (by kernel_rfl)

theorem rbefore_ok (ax ay bx b_y : Int) :
    AC Try.prog 86 0 ([.agg #[.int .i64 ax, .int .i64 ay], .agg #[.int .i64 bx, .int .i64 b_y]]) [] (.int .i64 (Sp.pcmp ax ay bx b_y)) [] := by
  refine ac_in Try.func86 (fun w0 W pin => ?_)
  refine aw_p 3 (
    .a 3 1 <| .nil _ _) ?_
  refine aw_sq 6 7 ?_
  refine aw_bl 0 13 ?_
  refine aw_p 27 (
    .a 2 3 <| .p (does_e ((ax == bx) && ((ay == b_y) && true)) (rfl)) <| .a 1 3 <| .nil _ _) ?_
  refine aw_cd 54 55 ((ax == bx) && ((ay == b_y) && true)) (fun h1 => ?_) (fun h1 => ?_)
  · have h1p : ((ax = bx ∧ ay = b_y)) := by first | (simpa using h1) | (have h1q := h1; simp at h1q; omega) | (have h1q := bx1 h1; simp at h1q; omega)
    refine aw_p 109 (
      .a 1 3 <| .nil _ _) ?_
    refine aw_rt ?_
    refine block_ret ?_
    refine then_ret ?_
    exact en_ret [.int .i64 0] (show (.int .i64 0 : Value) = (.int .i64 (Sp.pcmp ax ay bx b_y)) from (congrArg (Value.int .i64) (show 0 = (Sp.pcmp ax ay bx b_y) from by (rw [Sp.pcmp_form]; (repeat' split) <;> omega))))
  · have h1p : ¬ ((ax = bx ∧ ay = b_y)) := by first | (simpa using h1) | (have h1q := h1; simp at h1q; omega) | (have h1q := bx2 h1; simp at h1q; omega)
    rcases Bool.eq_false_or_eq_true (decide (ax < bx)) with h2 | h2
    · have h2p : ((ax < bx)) := by first | (simpa using h2) | (have h2q := h2; simp at h2q; omega) | (have h2q := bx1 h2; simp at h2q; omega)
      refine aw_p 111 (
        .a 4 3 <| .p (does_b true (h2)) <| .a 15 3 <| .nil _ _) ?_
      refine aw_w [(4, .int .i64 0), (9, .bool true)] [] ?_
      refine aw_tr 222 ?_
      refine aw_p 445 (
        .a 1 1 <| .nil _ _) ?_
      refine aw_rt ?_
      refine block_ret ?_
      refine then_ret ?_
      exact en_ret [.int .i64 (-1)] (show (.int .i64 (-1) : Value) = (.int .i64 (Sp.pcmp ax ay bx b_y)) from (congrArg (Value.int .i64) (show (-1) = (Sp.pcmp ax ay bx b_y) from by (rw [Sp.pcmp_form]; (repeat' split) <;> omega))))
    · have h2p : ¬ ((ax < bx)) := by first | (simpa using h2) | (have h2q := h2; simp at h2q; omega) | (have h2q := bx2 h2; simp at h2q; omega)
      rcases Bool.eq_false_or_eq_true (ax == bx) with h3 | h3
      · have h3p : ((ax = bx)) := by first | (simpa using h3) | (have h3q := h3; simp at h3q; omega) | (have h3q := bx1 h3; simp at h3q; omega)
        refine aw_p 111 (
          .a 4 3 <| .p (does_b false (h2)) <| .a 5 3 <| .p (does_b true (h3)) <| .a 9 3 <| .nil _ _) ?_
        refine aw_w [(4, .int .i64 0), (9, .bool (decide (ay < b_y)))] [] ?_
        refine aw_cd 222 223 (decide (ay < b_y)) (fun h4 => ?_) (fun h4 => ?_)
        · have h4p : ((ay < b_y)) := by first | (simpa using h4) | (have h4q := h4; simp at h4q; omega) | (have h4q := bx1 h4; simp at h4q; omega)
          refine aw_p 445 (
            .a 1 1 <| .nil _ _) ?_
          refine aw_rt ?_
          refine block_ret ?_
          refine then_ret ?_
          exact en_ret [.int .i64 (-1)] (show (.int .i64 (-1) : Value) = (.int .i64 (Sp.pcmp ax ay bx b_y)) from (congrArg (Value.int .i64) (show (-1) = (Sp.pcmp ax ay bx b_y) from by (rw [Sp.pcmp_form]; (repeat' split) <;> omega))))
        · have h4p : ¬ ((ay < b_y)) := by first | (simpa using h4) | (have h4q := h4; simp at h4q; omega) | (have h4q := bx2 h4; simp at h4q; omega)
          refine aw_sk ?_
          refine block_normal ?_
          refine then_normal ?_
          refine aw_p 15 (
            .a 1 1 <| .nil _ _) ?_
          refine aw_rt ?_
          exact en_ret [.int .i64 1] (show (.int .i64 1 : Value) = (.int .i64 (Sp.pcmp ax ay bx b_y)) from (congrArg (Value.int .i64) (show 1 = (Sp.pcmp ax ay bx b_y) from by (rw [Sp.pcmp_form]; (repeat' split) <;> omega))))
      · have h3p : ¬ ((ax = bx)) := by first | (simpa using h3) | (have h3q := h3; simp at h3q; omega) | (have h3q := bx2 h3; simp at h3q; omega)
        refine aw_p 111 (
          .a 4 3 <| .p (does_b false (h2)) <| .a 5 3 <| .p (does_b false (h3)) <| .a 9 3 <| .nil _ _) ?_
        refine aw_w [(4, .int .i64 0), (9, .bool false)] [] ?_
        refine aw_fl 223 ?_
        refine aw_sk ?_
        refine block_normal ?_
        refine then_normal ?_
        refine aw_p 15 (
          .a 1 1 <| .nil _ _) ?_
        refine aw_rt ?_
        exact en_ret [.int .i64 1] (show (.int .i64 1 : Value) = (.int .i64 (Sp.pcmp ax ay bx b_y)) from (congrArg (Value.int .i64) (show 1 = (Sp.pcmp ax ay bx b_y) from by (rw [Sp.pcmp_form]; (repeat' split) <;> omega))))

theorem rcross_ok (ax ay bx b_y cx cy : Int) :
    AC Try.prog 45 0 ([.agg #[.int .i64 ax, .int .i64 ay], .agg #[.int .i64 bx, .int .i64 b_y], .agg #[.int .i64 cx, .int .i64 cy]]) [] (.int .i64 (Sp.crs (Sp.lim 1048576 ax) (Sp.lim 1048576 ay) (Sp.lim 1048576 bx) (Sp.lim 1048576 b_y) (Sp.lim 1048576 cx) (Sp.lim 1048576 cy))) [] := by
  have qax := Sp.lim_bd (m := 1048576) (by decide) ax; have qay := Sp.lim_bd (m := 1048576) (by decide) ay; have qbx := Sp.lim_bd (m := 1048576) (by decide) bx; have qb_y := Sp.lim_bd (m := 1048576) (by decide) b_y; have qcx := Sp.lim_bd (m := 1048576) (by decide) cx; have qcy := Sp.lim_bd (m := 1048576) (by decide) cy; have p0 := Sp.mul_bd (a := (Sp.lim 1048576 ax)) (b := (Sp.lim 1048576 b_y)) (A := 1048576) (B := 1048576) (by omega) (by omega) (by omega) (by omega); have p1 := Sp.mul_bd (a := (Sp.lim 1048576 ay)) (b := (Sp.lim 1048576 bx)) (A := 1048576) (B := 1048576) (by omega) (by omega) (by omega) (by omega); have p2 := Sp.mul_bd (a := (Sp.lim 1048576 bx)) (b := (Sp.lim 1048576 cy)) (A := 1048576) (B := 1048576) (by omega) (by omega) (by omega) (by omega); have p3 := Sp.mul_bd (a := (Sp.lim 1048576 b_y)) (b := (Sp.lim 1048576 cx)) (A := 1048576) (B := 1048576) (by omega) (by omega) (by omega) (by omega); have p4 := Sp.mul_bd (a := (Sp.lim 1048576 cx)) (b := (Sp.lim 1048576 ay)) (A := 1048576) (B := 1048576) (by omega) (by omega) (by omega) (by omega); have p5 := Sp.mul_bd (a := (Sp.lim 1048576 cy)) (b := (Sp.lim 1048576 ax)) (A := 1048576) (B := 1048576) (by omega) (by omega) (by omega) (by omega)
  refine ac_in Try.func45 (fun w0 W pin => ?_)
  refine aw_p 3 (
    .a 4 1 <| .nil _ _) ?_
  refine aw_d 7 (
    .a 1 4 <| .p (does_c (rvalid_ok ax ay)) <| .a 1 4 <| .p (does_c (rvalid_ok bx b_y)) <| .a 1 4 <| .p (does_c (rvalid_ok cx cy)) <| .a 3 4 <| .nil _ _) ?_
  refine aw_p 15 (
    .a 4 4 <| .p (does_i ((Sp.lim 1048576 ax) * (Sp.lim 1048576 b_y)) (wrap_i64 (by omega) (by omega)) .i64) <| .a 4 4 <| .p (does_i ((Sp.lim 1048576 ay) * (Sp.lim 1048576 bx)) (wrap_i64 (by omega) (by omega)) .i64) <|
    .p (does_i (((Sp.lim 1048576 ax) * (Sp.lim 1048576 b_y)) - ((Sp.lim 1048576 ay) * (Sp.lim 1048576 bx))) (wrap_i64 (by omega) (by omega)) .i64) <| .a 4 4 <| .p (does_i ((Sp.lim 1048576 bx) * (Sp.lim 1048576 cy)) (wrap_i64 (by omega) (by omega)) .i64) <|
    .p (does_i ((((Sp.lim 1048576 ax) * (Sp.lim 1048576 b_y)) - ((Sp.lim 1048576 ay) * (Sp.lim 1048576 bx))) + ((Sp.lim 1048576 bx) * (Sp.lim 1048576 cy))) (wrap_i64 (by omega) (by omega)) .i64) <| .a 4 4 <| .p (does_i ((Sp.lim 1048576 b_y) * (Sp.lim 1048576 cx)) (wrap_i64 (by omega) (by omega)) .i64) <|
    .p (does_i (((((Sp.lim 1048576 ax) * (Sp.lim 1048576 b_y)) - ((Sp.lim 1048576 ay) * (Sp.lim 1048576 bx))) + ((Sp.lim 1048576 bx) * (Sp.lim 1048576 cy))) - ((Sp.lim 1048576 b_y) * (Sp.lim 1048576 cx))) (wrap_i64 (by omega) (by omega)) .i64) <| .a 4 4 <|
    .p (does_i ((Sp.lim 1048576 cx) * (Sp.lim 1048576 ay)) (wrap_i64 (by omega) (by omega)) .i64) <|
    .p (does_i ((((((Sp.lim 1048576 ax) * (Sp.lim 1048576 b_y)) - ((Sp.lim 1048576 ay) * (Sp.lim 1048576 bx))) + ((Sp.lim 1048576 bx) * (Sp.lim 1048576 cy))) - ((Sp.lim 1048576 b_y) * (Sp.lim 1048576 cx))) + ((Sp.lim 1048576 cx) * (Sp.lim 1048576 ay))) (wrap_i64 (by omega) (by omega)) .i64) <| .a 4 4 <|
    .p (does_i ((Sp.lim 1048576 cy) * (Sp.lim 1048576 ax)) (wrap_i64 (by omega) (by omega)) .i64) <|
    .p (does_i (((((((Sp.lim 1048576 ax) * (Sp.lim 1048576 b_y)) - ((Sp.lim 1048576 ay) * (Sp.lim 1048576 bx))) + ((Sp.lim 1048576 bx) * (Sp.lim 1048576 cy))) - ((Sp.lim 1048576 b_y) * (Sp.lim 1048576 cx))) + ((Sp.lim 1048576 cx) * (Sp.lim 1048576 ay))) - ((Sp.lim 1048576 cy) * (Sp.lim 1048576 ax))) (wrap_i64 (by omega) (by omega)) .i64) <|
    .a 1 4 <| .nil _ _) ?_
  refine aw_w [(6, .int .i64 (((((((Sp.lim 1048576 ax) * (Sp.lim 1048576 b_y)) - ((Sp.lim 1048576 ay) * (Sp.lim 1048576 bx))) + ((Sp.lim 1048576 bx) * (Sp.lim 1048576 cy))) - ((Sp.lim 1048576 b_y) * (Sp.lim 1048576 cx))) + ((Sp.lim 1048576 cx) * (Sp.lim 1048576 ay))) - ((Sp.lim 1048576 cy) * (Sp.lim 1048576 ax))))] [] ?_
  refine aw_rt ?_
  exact en_ret [.int .i64 (((((((Sp.lim 1048576 ax) * (Sp.lim 1048576 b_y)) - ((Sp.lim 1048576 ay) * (Sp.lim 1048576 bx))) + ((Sp.lim 1048576 bx) * (Sp.lim 1048576 cy))) - ((Sp.lim 1048576 b_y) * (Sp.lim 1048576 cx))) + ((Sp.lim 1048576 cx) * (Sp.lim 1048576 ay))) - ((Sp.lim 1048576 cy) * (Sp.lim 1048576 ax)))] (show (.int .i64 (((((((Sp.lim 1048576 ax) * (Sp.lim 1048576 b_y)) - ((Sp.lim 1048576 ay) * (Sp.lim 1048576 bx))) + ((Sp.lim 1048576 bx) * (Sp.lim 1048576 cy))) - ((Sp.lim 1048576 b_y) * (Sp.lim 1048576 cx))) + ((Sp.lim 1048576 cx) * (Sp.lim 1048576 ay))) - ((Sp.lim 1048576 cy) * (Sp.lim 1048576 ax))) : Value) = (.int .i64 (Sp.crs (Sp.lim 1048576 ax) (Sp.lim 1048576 ay) (Sp.lim 1048576 bx) (Sp.lim 1048576 b_y) (Sp.lim 1048576 cx) (Sp.lim 1048576 cy))) from (congrArg (Value.int .i64) (show (((((((Sp.lim 1048576 ax) * (Sp.lim 1048576 b_y)) - ((Sp.lim 1048576 ay) * (Sp.lim 1048576 bx))) + ((Sp.lim 1048576 bx) * (Sp.lim 1048576 cy))) - ((Sp.lim 1048576 b_y) * (Sp.lim 1048576 cx))) + ((Sp.lim 1048576 cx) * (Sp.lim 1048576 ay))) - ((Sp.lim 1048576 cy) * (Sp.lim 1048576 ax))) = (Sp.crs (Sp.lim 1048576 ax) (Sp.lim 1048576 ay) (Sp.lim 1048576 bx) (Sp.lim 1048576 b_y) (Sp.lim 1048576 cx) (Sp.lim 1048576 cy)) from by exact Sp.crs_shoe _ _ _ _ _ _)))

theorem rsign_ok (x : Int) :
    AC Try.prog 164 0 ([.int .i64 x]) [] (.int .i64 (Sp.sgn x)) [] := by
  refine ac_in Try.func164 (fun w0 W pin => ?_)
  refine aw_p 3 (
    .a 1 1 <| .nil _ _) ?_
  refine aw_sq 6 7 ?_
  refine aw_bl 0 13 ?_
  refine aw_p 27 (
    .a 3 1 <| .nil _ _) ?_
  refine aw_cd 54 55 (decide (x < 0)) (fun h1 => ?_) (fun h1 => ?_)
  · have h1p : ((x < 0)) := by first | (simpa using h1) | (have h1q := h1; simp at h1q; omega) | (have h1q := bx1 h1; simp at h1q; omega)
    refine aw_p 109 (
      .a 1 1 <| .nil _ _) ?_
    refine aw_rt ?_
    refine block_ret ?_
    refine then_ret ?_
    exact en_ret [.int .i64 (-1)] (show (.int .i64 (-1) : Value) = (.int .i64 (Sp.sgn x)) from (congrArg (Value.int .i64) (show (-1) = (Sp.sgn x) from by (first | rfl | (simp only [Sp.lim, Sp.cmp, Sp.sgn]; (repeat' split) <;> omega)))))
  · have h1p : ¬ ((x < 0)) := by first | (simpa using h1) | (have h1q := h1; simp at h1q; omega) | (have h1q := bx2 h1; simp at h1q; omega)
    refine aw_p 111 (
      .a 3 1 <| .nil _ _) ?_
    refine aw_cd 222 223 (decide (x > 0)) (fun h2 => ?_) (fun h2 => ?_)
    · have h2p : ((x > 0)) := by first | (simpa using h2) | (have h2q := h2; simp at h2q; omega) | (have h2q := bx1 h2; simp at h2q; omega)
      refine aw_p 445 (
        .a 1 1 <| .nil _ _) ?_
      refine aw_rt ?_
      refine block_ret ?_
      refine then_ret ?_
      exact en_ret [.int .i64 1] (show (.int .i64 1 : Value) = (.int .i64 (Sp.sgn x)) from (congrArg (Value.int .i64) (show 1 = (Sp.sgn x) from by (first | rfl | (simp only [Sp.lim, Sp.cmp, Sp.sgn]; (repeat' split) <;> omega)))))
    · have h2p : ¬ ((x > 0)) := by first | (simpa using h2) | (have h2q := h2; simp at h2q; omega) | (have h2q := bx2 h2; simp at h2q; omega)
      refine aw_sk ?_
      refine block_normal ?_
      refine then_normal ?_
      refine aw_p 15 (
        .a 1 1 <| .nil _ _) ?_
      refine aw_rt ?_
      exact en_ret [.int .i64 0] (show (.int .i64 0 : Value) = (.int .i64 (Sp.sgn x)) from (congrArg (Value.int .i64) (show 0 = (Sp.sgn x) from by (first | rfl | (simp only [Sp.lim, Sp.cmp, Sp.sgn]; (repeat' split) <;> omega)))))

theorem rfar_ok (ax ay bx b_y : Int) :
    AC Try.prog 40 0 ([.agg #[.int .i64 ax, .int .i64 ay], .agg #[.int .i64 bx, .int .i64 b_y]]) [] (.int .i64 (Sp.dot (Sp.lim 1048576 ax) (Sp.lim 1048576 ay) (Sp.lim 1048576 bx) (Sp.lim 1048576 b_y) (Sp.lim 1048576 bx) (Sp.lim 1048576 b_y))) [] := by
  have qax := Sp.lim_bd (m := 1048576) (by decide) ax; have qay := Sp.lim_bd (m := 1048576) (by decide) ay; have qbx := Sp.lim_bd (m := 1048576) (by decide) bx; have qb_y := Sp.lim_bd (m := 1048576) (by decide) b_y; have p0 := Sp.mul_bd (a := ((Sp.lim 1048576 ax) - (Sp.lim 1048576 bx))) (b := ((Sp.lim 1048576 ax) - (Sp.lim 1048576 bx))) (A := 2097152) (B := 2097152) (by omega) (by omega) (by omega) (by omega); have p1 := Sp.mul_bd (a := ((Sp.lim 1048576 ay) - (Sp.lim 1048576 b_y))) (b := ((Sp.lim 1048576 ay) - (Sp.lim 1048576 b_y))) (A := 2097152) (B := 2097152) (by omega) (by omega) (by omega) (by omega)
  refine ac_in Try.func40 (fun w0 W pin => ?_)
  refine aw_p 3 (
    .a 3 1 <| .nil _ _) ?_
  refine aw_d 7 (
    .a 1 3 <| .p (does_c (rvalid_ok ax ay)) <| .a 1 3 <| .p (does_c (rvalid_ok bx b_y)) <| .a 2 3 <| .nil _ _) ?_
  refine aw_p 15 (
    .a 4 3 <| .p (does_i ((Sp.lim 1048576 ax) - (Sp.lim 1048576 bx)) (wrap_i64 (by omega) (by omega)) .i64) <| .a 4 3 <| .p (does_i ((Sp.lim 1048576 ax) - (Sp.lim 1048576 bx)) (wrap_i64 (by omega) (by omega)) .i64) <|
    .p (does_i (((Sp.lim 1048576 ax) - (Sp.lim 1048576 bx)) * ((Sp.lim 1048576 ax) - (Sp.lim 1048576 bx))) (wrap_i64 (by omega) (by omega)) .i64) <| .a 4 3 <| .p (does_i ((Sp.lim 1048576 ay) - (Sp.lim 1048576 b_y)) (wrap_i64 (by omega) (by omega)) .i64) <| .a 4 3 <|
    .p (does_i ((Sp.lim 1048576 ay) - (Sp.lim 1048576 b_y)) (wrap_i64 (by omega) (by omega)) .i64) <| .p (does_i (((Sp.lim 1048576 ay) - (Sp.lim 1048576 b_y)) * ((Sp.lim 1048576 ay) - (Sp.lim 1048576 b_y))) (wrap_i64 (by omega) (by omega)) .i64) <|
    .p (does_i ((((Sp.lim 1048576 ax) - (Sp.lim 1048576 bx)) * ((Sp.lim 1048576 ax) - (Sp.lim 1048576 bx))) + (((Sp.lim 1048576 ay) - (Sp.lim 1048576 b_y)) * ((Sp.lim 1048576 ay) - (Sp.lim 1048576 b_y)))) (wrap_i64 (by omega) (by omega)) .i64) <| .a 1 3 <| .nil _ _) ?_
  refine aw_w [(4, .int .i64 ((((Sp.lim 1048576 ax) - (Sp.lim 1048576 bx)) * ((Sp.lim 1048576 ax) - (Sp.lim 1048576 bx))) + (((Sp.lim 1048576 ay) - (Sp.lim 1048576 b_y)) * ((Sp.lim 1048576 ay) - (Sp.lim 1048576 b_y)))))] [] ?_
  refine aw_rt ?_
  exact en_ret [.int .i64 ((((Sp.lim 1048576 ax) - (Sp.lim 1048576 bx)) * ((Sp.lim 1048576 ax) - (Sp.lim 1048576 bx))) + (((Sp.lim 1048576 ay) - (Sp.lim 1048576 b_y)) * ((Sp.lim 1048576 ay) - (Sp.lim 1048576 b_y))))] (show (.int .i64 ((((Sp.lim 1048576 ax) - (Sp.lim 1048576 bx)) * ((Sp.lim 1048576 ax) - (Sp.lim 1048576 bx))) + (((Sp.lim 1048576 ay) - (Sp.lim 1048576 b_y)) * ((Sp.lim 1048576 ay) - (Sp.lim 1048576 b_y)))) : Value) = (.int .i64 (Sp.dot (Sp.lim 1048576 ax) (Sp.lim 1048576 ay) (Sp.lim 1048576 bx) (Sp.lim 1048576 b_y) (Sp.lim 1048576 bx) (Sp.lim 1048576 b_y))) from (congrArg (Value.int .i64) (show ((((Sp.lim 1048576 ax) - (Sp.lim 1048576 bx)) * ((Sp.lim 1048576 ax) - (Sp.lim 1048576 bx))) + (((Sp.lim 1048576 ay) - (Sp.lim 1048576 b_y)) * ((Sp.lim 1048576 ay) - (Sp.lim 1048576 b_y)))) = (Sp.dot (Sp.lim 1048576 ax) (Sp.lim 1048576 ay) (Sp.lim 1048576 bx) (Sp.lim 1048576 b_y) (Sp.lim 1048576 bx) (Sp.lim 1048576 b_y)) from by exact Sp.far_dot _ _ _ _)))

theorem rdot_ok (ax ay bx b_y cx cy : Int) :
    AC Try.prog 132 0 ([.agg #[.int .i64 ax, .int .i64 ay], .agg #[.int .i64 bx, .int .i64 b_y], .agg #[.int .i64 cx, .int .i64 cy]]) [] (.int .i64 (Sp.dot (Sp.lim 1048576 ax) (Sp.lim 1048576 ay) (Sp.lim 1048576 bx) (Sp.lim 1048576 b_y) (Sp.lim 1048576 cx) (Sp.lim 1048576 cy))) [] := by
  have qax := Sp.lim_bd (m := 1048576) (by decide) ax; have qay := Sp.lim_bd (m := 1048576) (by decide) ay; have qbx := Sp.lim_bd (m := 1048576) (by decide) bx; have qb_y := Sp.lim_bd (m := 1048576) (by decide) b_y; have qcx := Sp.lim_bd (m := 1048576) (by decide) cx; have qcy := Sp.lim_bd (m := 1048576) (by decide) cy; have c0 := Sp.crs_bd (ax := (Sp.lim 1048576 ax)) (ay := (Sp.lim 1048576 ay)) (bx := (Sp.lim 1048576 bx)) (b_y := (Sp.lim 1048576 b_y)) (cx := (Sp.lim 1048576 bx)) (cy := (Sp.lim 1048576 b_y)) (M := 1048576) (by decide) ⟨by omega, by omega, by omega, by omega, by omega, by omega⟩; have c1 := Sp.crs_bd (ax := (Sp.lim 1048576 ax)) (ay := (Sp.lim 1048576 ay)) (bx := (Sp.lim 1048576 cx)) (b_y := (Sp.lim 1048576 cy)) (cx := (Sp.lim 1048576 cx)) (cy := (Sp.lim 1048576 cy)) (M := 1048576) (by decide) ⟨by omega, by omega, by omega, by omega, by omega, by omega⟩; have c2 := Sp.crs_bd (ax := (Sp.lim 1048576 bx)) (ay := (Sp.lim 1048576 b_y)) (bx := (Sp.lim 1048576 cx)) (b_y := (Sp.lim 1048576 cy)) (cx := (Sp.lim 1048576 cx)) (cy := (Sp.lim 1048576 cy)) (M := 1048576) (by decide) ⟨by omega, by omega, by omega, by omega, by omega, by omega⟩; have c3 := Sp.crs_bd (ax := (Sp.lim 1048576 ax)) (ay := (Sp.lim 1048576 ay)) (bx := (Sp.lim 1048576 bx)) (b_y := (Sp.lim 1048576 b_y)) (cx := (Sp.lim 1048576 cx)) (cy := (Sp.lim 1048576 cy)) (M := 1048576) (by decide) ⟨by omega, by omega, by omega, by omega, by omega, by omega⟩
  refine ac_in Try.func132 (fun w0 W pin => ?_)
  refine aw_p 3 (
    .a 4 1 <| .nil _ _) ?_
  refine aw_d 7 (
    .a 2 4 <| .p (does_c (rfar_ok ax ay bx b_y)) <| .a 2 4 <| .p (does_c (rfar_ok ax ay cx cy)) <|
    .p (does_i ((Sp.dot (Sp.lim 1048576 ax) (Sp.lim 1048576 ay) (Sp.lim 1048576 bx) (Sp.lim 1048576 b_y) (Sp.lim 1048576 bx) (Sp.lim 1048576 b_y)) + (Sp.dot (Sp.lim 1048576 ax) (Sp.lim 1048576 ay) (Sp.lim 1048576 cx) (Sp.lim 1048576 cy) (Sp.lim 1048576 cx) (Sp.lim 1048576 cy))) (wrap_i64 (by omega) (by omega)) .i64) <|
    .a 2 4 <| .p (does_c (rfar_ok bx b_y cx cy)) <|
    .p (does_i (((Sp.dot (Sp.lim 1048576 ax) (Sp.lim 1048576 ay) (Sp.lim 1048576 bx) (Sp.lim 1048576 b_y) (Sp.lim 1048576 bx) (Sp.lim 1048576 b_y)) + (Sp.dot (Sp.lim 1048576 ax) (Sp.lim 1048576 ay) (Sp.lim 1048576 cx) (Sp.lim 1048576 cy) (Sp.lim 1048576 cx) (Sp.lim 1048576 cy))) - (Sp.dot (Sp.lim 1048576 bx) (Sp.lim 1048576 b_y) (Sp.lim 1048576 cx) (Sp.lim 1048576 cy) (Sp.lim 1048576 cx) (Sp.lim 1048576 cy))) (wrap_i64 (by omega) (by omega)) .i64) <|
    .p (does_i (Int.tdiv (((Sp.dot (Sp.lim 1048576 ax) (Sp.lim 1048576 ay) (Sp.lim 1048576 bx) (Sp.lim 1048576 b_y) (Sp.lim 1048576 bx) (Sp.lim 1048576 b_y)) + (Sp.dot (Sp.lim 1048576 ax) (Sp.lim 1048576 ay) (Sp.lim 1048576 cx) (Sp.lim 1048576 cy) (Sp.lim 1048576 cx) (Sp.lim 1048576 cy))) - (Sp.dot (Sp.lim 1048576 bx) (Sp.lim 1048576 b_y) (Sp.lim 1048576 cx) (Sp.lim 1048576 cy) (Sp.lim 1048576 cx) (Sp.lim 1048576 cy))) 2) (wrap_i64 (by rw [Sp.cosines]; omega) (by rw [Sp.cosines]; omega)) .i64) <|
    .a 1 4 <| .nil _ _) ?_
  refine aw_rt ?_
  exact en_ret [.int .i64 (Int.tdiv (((Sp.dot (Sp.lim 1048576 ax) (Sp.lim 1048576 ay) (Sp.lim 1048576 bx) (Sp.lim 1048576 b_y) (Sp.lim 1048576 bx) (Sp.lim 1048576 b_y)) + (Sp.dot (Sp.lim 1048576 ax) (Sp.lim 1048576 ay) (Sp.lim 1048576 cx) (Sp.lim 1048576 cy) (Sp.lim 1048576 cx) (Sp.lim 1048576 cy))) - (Sp.dot (Sp.lim 1048576 bx) (Sp.lim 1048576 b_y) (Sp.lim 1048576 cx) (Sp.lim 1048576 cy) (Sp.lim 1048576 cx) (Sp.lim 1048576 cy))) 2)] (show (.int .i64 (Int.tdiv (((Sp.dot (Sp.lim 1048576 ax) (Sp.lim 1048576 ay) (Sp.lim 1048576 bx) (Sp.lim 1048576 b_y) (Sp.lim 1048576 bx) (Sp.lim 1048576 b_y)) + (Sp.dot (Sp.lim 1048576 ax) (Sp.lim 1048576 ay) (Sp.lim 1048576 cx) (Sp.lim 1048576 cy) (Sp.lim 1048576 cx) (Sp.lim 1048576 cy))) - (Sp.dot (Sp.lim 1048576 bx) (Sp.lim 1048576 b_y) (Sp.lim 1048576 cx) (Sp.lim 1048576 cy) (Sp.lim 1048576 cx) (Sp.lim 1048576 cy))) 2) : Value) = (.int .i64 (Sp.dot (Sp.lim 1048576 ax) (Sp.lim 1048576 ay) (Sp.lim 1048576 bx) (Sp.lim 1048576 b_y) (Sp.lim 1048576 cx) (Sp.lim 1048576 cy))) from (congrArg (Value.int .i64) (show (Int.tdiv (((Sp.dot (Sp.lim 1048576 ax) (Sp.lim 1048576 ay) (Sp.lim 1048576 bx) (Sp.lim 1048576 b_y) (Sp.lim 1048576 bx) (Sp.lim 1048576 b_y)) + (Sp.dot (Sp.lim 1048576 ax) (Sp.lim 1048576 ay) (Sp.lim 1048576 cx) (Sp.lim 1048576 cy) (Sp.lim 1048576 cx) (Sp.lim 1048576 cy))) - (Sp.dot (Sp.lim 1048576 bx) (Sp.lim 1048576 b_y) (Sp.lim 1048576 cx) (Sp.lim 1048576 cy) (Sp.lim 1048576 cx) (Sp.lim 1048576 cy))) 2) = (Sp.dot (Sp.lim 1048576 ax) (Sp.lim 1048576 ay) (Sp.lim 1048576 bx) (Sp.lim 1048576 b_y) (Sp.lim 1048576 cx) (Sp.lim 1048576 cy)) from by exact Sp.cosines _ _ _ _ _ _)))

theorem rbetween_ok (n a b : Int) :
    AC Try.prog 119 0 ([.int .i64 n, .int .i64 a, .int .i64 b]) [] (.bool (Sp.btw n a b)) [] := by
  refine ac_in Try.func119 (fun w0 W pin => ?_)
  refine aw_p 3 (
    .a 1 1 <| .nil _ _) ?_
  rcases Bool.eq_false_or_eq_true (decide (a ≤ n)) with h1 | h1
  · have h1p : ((a ≤ n)) := by first | (simpa using h1) | (have h1q := h1; simp at h1q; omega) | (have h1q := bx1 h1; simp at h1q; omega)
    rcases Bool.eq_false_or_eq_true (decide (n ≤ b)) with h2 | h2
    · have h2p : ((n ≤ b)) := by first | (simpa using h2) | (have h2q := h2; simp at h2q; omega) | (have h2q := bx1 h2; simp at h2q; omega)
      refine aw_p 7 (
        .a 2 1 <| .p (does_b true (h1)) <| .a 3 1 <| .p (does_b true (h2)) <| .a 12 1 <| .nil _ _) ?_
      refine aw_rt ?_
      exact en_ret [.bool true] (show (.bool true : Value) = (.bool (Sp.btw n a b)) from (congrArg Value.bool (show true = (Sp.btw n a b) from by (simp [Sp.btw, *]))))
    · have h2p : ¬ ((n ≤ b)) := by first | (simpa using h2) | (have h2q := h2; simp at h2q; omega) | (have h2q := bx2 h2; simp at h2q; omega)
      rcases Bool.eq_false_or_eq_true (decide (b ≤ n)) with h3 | h3
      · have h3p : ((b ≤ n)) := by first | (simpa using h3) | (have h3q := h3; simp at h3q; omega) | (have h3q := bx1 h3; simp at h3q; omega)
        refine aw_p 7 (
          .a 2 1 <| .p (does_b true (h1)) <| .a 3 1 <| .p (does_b false (h2)) <| .a 4 1 <| .p (does_b true (h3)) <| .a 7 1 <| .nil _ _) ?_
        refine aw_rt ?_
        exact en_ret [.bool (decide (n ≤ a))] (show (.bool (decide (n ≤ a)) : Value) = (.bool (Sp.btw n a b)) from (congrArg Value.bool (show (decide (n ≤ a)) = (Sp.btw n a b) from by (simp [Sp.btw, *]))))
      · have h3p : ¬ ((b ≤ n)) := by first | (simpa using h3) | (have h3q := h3; simp at h3q; omega) | (have h3q := bx2 h3; simp at h3q; omega)
        refine aw_p 7 (
          .a 2 1 <| .p (does_b true (h1)) <| .a 3 1 <| .p (does_b false (h2)) <| .a 4 1 <| .p (does_b false (h3)) <| .a 7 1 <| .nil _ _) ?_
        refine aw_rt ?_
        exact en_ret [.bool false] (show (.bool false : Value) = (.bool (Sp.btw n a b)) from (congrArg Value.bool (show false = (Sp.btw n a b) from by (simp [Sp.btw, *]))))
  · have h1p : ¬ ((a ≤ n)) := by first | (simpa using h1) | (have h1q := h1; simp at h1q; omega) | (have h1q := bx2 h1; simp at h1q; omega)
    rcases Bool.eq_false_or_eq_true (decide (b ≤ n)) with h4 | h4
    · have h4p : ((b ≤ n)) := by first | (simpa using h4) | (have h4q := h4; simp at h4q; omega) | (have h4q := bx1 h4; simp at h4q; omega)
      refine aw_p 7 (
        .a 2 1 <| .p (does_b false (h1)) <| .a 8 1 <| .p (does_b true (h4)) <| .a 7 1 <| .nil _ _) ?_
      refine aw_rt ?_
      exact en_ret [.bool (decide (n ≤ a))] (show (.bool (decide (n ≤ a)) : Value) = (.bool (Sp.btw n a b)) from (congrArg Value.bool (show (decide (n ≤ a)) = (Sp.btw n a b) from by (simp [Sp.btw, *]))))
    · have h4p : ¬ ((b ≤ n)) := by first | (simpa using h4) | (have h4q := h4; simp at h4q; omega) | (have h4q := bx2 h4; simp at h4q; omega)
      refine aw_p 7 (
        .a 2 1 <| .p (does_b false (h1)) <| .a 8 1 <| .p (does_b false (h4)) <| .a 7 1 <| .nil _ _) ?_
      refine aw_rt ?_
      exact en_ret [.bool false] (show (.bool false : Value) = (.bool (Sp.btw n a b)) from (congrArg Value.bool (show false = (Sp.btw n a b) from by (simp [Sp.btw, *]))))

theorem rcross_in (ax ay bx b_y cx cy : Int) (axl : -1048576 ≤ ax) (axu : ax ≤ 1048576) (ayl : -1048576 ≤ ay) (ayu : ay ≤ 1048576) (bxl : -1048576 ≤ bx) (bxu : bx ≤ 1048576) (b_yl : -1048576 ≤ b_y) (b_yu : b_y ≤ 1048576) (cxl : -1048576 ≤ cx) (cxu : cx ≤ 1048576) (cyl : -1048576 ≤ cy) (cyu : cy ≤ 1048576) : AC Try.prog 45 0 [.agg #[.int .i64 ax, .int .i64 ay], .agg #[.int .i64 bx, .int .i64 b_y], .agg #[.int .i64 cx, .int .i64 cy]] [] (.int .i64 (Sp.crs ax ay bx b_y cx cy)) [] := by
  have h := rcross_ok ax ay bx b_y cx cy
  simp only [Sp.lim_id axl axu, Sp.lim_id ayl ayu, Sp.lim_id bxl bxu, Sp.lim_id b_yl b_yu, Sp.lim_id cxl cxu, Sp.lim_id cyl cyu] at h
  exact h

end Go.Proofs.Ytadifmimefmcnaa.Am
