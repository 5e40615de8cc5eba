/-
  The walks of the document's count of common points, second part.
-/
import Derived.Test.YtigllakcfdoagaaProg
import Derived.Test.YtigllakcfdoagaaAm16
import Derived.Test.YtigllakcfdoagaaSg6
namespace Go.Proofs.Ytigllakcfdoagaa.Am
open Go Go.Proofs
set_option maxRecDepth 100000
set_option maxHeartbeats 4000000
set_option linter.unusedVariables false
set_option linter.unusedSimpArgs false

theorem pcontains0 (px py : Int) :
    AC Try.prog 92 0 ([.slice none 0 0, .agg #[.int .i64 px, .int .i64 py]]) [] (.bool (Sp.has2 [] px py)) [] := by
  refine ac_in Try.func92 (fun w0 W pin => ?_)
  refine aw_p 3 (
    .a 2 1 <| .nil _ _) ?_
  refine aw_p 7 (
    .a 2 2 <| .p (does_c (pindex0 px py)) <| .a 2 2 <| .nil _ _) ?_
  refine aw_rt ?_
  exact en_ret [.bool (decide ((Sp.ix2 [] px py) ≥ 0))] (show (.bool (decide ((Sp.ix2 [] px py) ≥ 0)) : Value) = (.bool (Sp.has2 [] px py)) from (congrArg Value.bool (show (decide ((Sp.ix2 [] px py) ≥ 0)) = (Sp.has2 [] px py) from by exact Sp.ix2_has _ _ _)))

theorem pcontains1 (x1 y1 px py : Int) :
    AC Try.prog 92 1 ([.slice (some ⟨0, 0, none⟩) 1 0, .agg #[.int .i64 px, .int .i64 py]]) [(0, ⟨[.int .i64 x1, .int .i64 y1], 24, true, 2⟩)] (.bool (Sp.has2 [(x1, y1)] px py)) [(0, ⟨[.int .i64 x1, .int .i64 y1], 24, true, 2⟩)] := by
  refine ac_in Try.func92 (fun w0 W pin => ?_)
  refine aw_p 3 (
    .a 2 1 <| .nil _ _) ?_
  refine aw_p 7 (
    .a 2 2 <| .p (does_k [0] (pindex1 x1 y1 px py)) <| .a 2 2 <| .nil _ _) ?_
  refine aw_rt ?_
  exact en_ret [.bool (decide ((Sp.ix2 [(x1, y1)] px py) ≥ 0))] (show (.bool (decide ((Sp.ix2 [(x1, y1)] px py) ≥ 0)) : Value) = (.bool (Sp.has2 [(x1, y1)] px py)) from (congrArg Value.bool (show (decide ((Sp.ix2 [(x1, y1)] px py) ≥ 0)) = (Sp.has2 [(x1, y1)] px py) from by exact Sp.ix2_has _ _ _)))

theorem pcontains2 (x1 y1 x2 y2 px py : Int) :
    AC Try.prog 92 1 ([.slice (some ⟨0, 0, none⟩) 2 0, .agg #[.int .i64 px, .int .i64 py]]) [(0, ⟨[.int .i64 x1, .int .i64 y1, .int .i64 x2, .int .i64 y2], 24, true, 2⟩)] (.bool (Sp.has2 [(x1, y1), (x2, y2)] px py)) [(0, ⟨[.int .i64 x1, .int .i64 y1, .int .i64 x2, .int .i64 y2], 24, true, 2⟩)] := by
  refine ac_in Try.func92 (fun w0 W pin => ?_)
  refine aw_p 3 (
    .a 2 1 <| .nil _ _) ?_
  refine aw_p 7 (
    .a 2 2 <| .p (does_k [0] (pindex2 x1 y1 x2 y2 px py)) <| .a 2 2 <| .nil _ _) ?_
  refine aw_rt ?_
  exact en_ret [.bool (decide ((Sp.ix2 [(x1, y1), (x2, y2)] px py) ≥ 0))] (show (.bool (decide ((Sp.ix2 [(x1, y1), (x2, y2)] px py) ≥ 0)) : Value) = (.bool (Sp.has2 [(x1, y1), (x2, y2)] px py)) from (congrArg Value.bool (show (decide ((Sp.ix2 [(x1, y1), (x2, y2)] px py) ≥ 0)) = (Sp.has2 [(x1, y1), (x2, y2)] px py) from by exact Sp.ix2_has _ _ _)))

theorem pcontains3 (x1 y1 x2 y2 x3 y3 px py : Int) :
    AC Try.prog 92 1 ([.slice (some ⟨0, 0, none⟩) 3 0, .agg #[.int .i64 px, .int .i64 py]]) [(0, ⟨[.int .i64 x1, .int .i64 y1, .int .i64 x2, .int .i64 y2, .int .i64 x3, .int .i64 y3], 24, true, 2⟩)] (.bool (Sp.has2 [(x1, y1), (x2, y2), (x3, y3)] px py)) [(0, ⟨[.int .i64 x1, .int .i64 y1, .int .i64 x2, .int .i64 y2, .int .i64 x3, .int .i64 y3], 24, true, 2⟩)] := by
  refine ac_in Try.func92 (fun w0 W pin => ?_)
  refine aw_p 3 (
    .a 2 1 <| .nil _ _) ?_
  refine aw_p 7 (
    .a 2 2 <| .p (does_k [0] (pindex3 x1 y1 x2 y2 x3 y3 px py)) <| .a 2 2 <| .nil _ _) ?_
  refine aw_rt ?_
  exact en_ret [.bool (decide ((Sp.ix2 [(x1, y1), (x2, y2), (x3, y3)] px py) ≥ 0))] (show (.bool (decide ((Sp.ix2 [(x1, y1), (x2, y2), (x3, y3)] px py) ≥ 0)) : Value) = (.bool (Sp.has2 [(x1, y1), (x2, y2), (x3, y3)] px py)) from (congrArg Value.bool (show (decide ((Sp.ix2 [(x1, y1), (x2, y2), (x3, y3)] px py) ≥ 0)) = (Sp.has2 [(x1, y1), (x2, y2), (x3, y3)] px py) from by exact Sp.ix2_has _ _ _)))

theorem rcrossing_in (ax ay bx b_y cx cy dx dy : Int) (axl : -1048576 ≤ ax) (axu : ax ≤ 1048576) (ayl : -1048576 ≤ ay) (ayu : ay ≤ 1048576) (bxl : -1048576 ≤ bx) (bxu : bx ≤ 1048576) (b_yl : -1048576 ≤ b_y) (b_yu : b_y ≤ 1048576) (cxl : -1048576 ≤ cx) (cxu : cx ≤ 1048576) (cyl : -1048576 ≤ cy) (cyu : cy ≤ 1048576) (dxl : -1048576 ≤ dx) (dxu : dx ≤ 1048576) (dyl : -1048576 ≤ dy) (dyu : dy ≤ 1048576) :
    AC Try.prog 91 0 ([.agg #[.int .i64 ax, .int .i64 ay], .agg #[.int .i64 bx, .int .i64 b_y], .agg #[.int .i64 cx, .int .i64 cy], .agg #[.int .i64 dx, .int .i64 dy]]) [] (.int .i64 (Sp.crossN ax ay bx b_y cx cy dx dy)) [] := by
  have s0 := Sp.sgn_bd (Sp.crs ax ay bx b_y cx cy); have s1 := Sp.sgn_bd (Sp.crs ax ay bx b_y dx dy); have s2 := Sp.sgn_bd (Sp.crs cx cy dx dy ax ay); have s3 := Sp.sgn_bd (Sp.crs cx cy dx dy bx b_y); have m0 := Sp.mul_bd s0.1 s0.2 s1.1 s1.2; have m1 := Sp.mul_bd s2.1 s2.2 s3.1 s3.2
  refine ac_in Try.func91 (fun w0 W pin => ?_)
  refine aw_p 3 (
    .a 5 1 <| .nil _ _) ?_
  refine aw_sq 6 7 ?_
  rcases Bool.eq_false_or_eq_true (decide (((Sp.sgn (Sp.crs ax ay bx b_y cx cy)) * (Sp.sgn (Sp.crs ax ay bx b_y dx dy))) ≤ 0)) with h1 | h1
  · have h1p : ((((Sp.sgn (Sp.crs ax ay bx b_y cx cy)) * (Sp.sgn (Sp.crs ax ay bx b_y dx dy))) ≤ 0)) := by first | (simpa using h1) | (have h1q := h1; simp at h1q; omega) | (have h1q := bx1 h1; simp at h1q; omega)
    refine aw_d 13 (
      .a 3 5 <| .p (does_c (rcross_in ax ay bx b_y cx cy (by omega) (by omega) (by omega) (by omega) (by omega) (by omega) (by omega) (by omega) (by omega) (by omega) (by omega) (by omega))) <| .p (does_c (rsign_ok (Sp.crs ax ay bx b_y cx cy))) <| .a 3 5 <|
      .p (does_c (rcross_in ax ay bx b_y dx dy (by omega) (by omega) (by omega) (by omega) (by omega) (by omega) (by omega) (by omega) (by omega) (by omega) (by omega) (by omega))) <| .p (does_c (rsign_ok (Sp.crs ax ay bx b_y dx dy))) <|
      .p (does_i ((Sp.sgn (Sp.crs ax ay bx b_y cx cy)) * (Sp.sgn (Sp.crs ax ay bx b_y dx dy))) (wrap_i64 (by omega) (by omega)) .i64) <| .p (does_b true (h1)) <| .a 4 5 <|
      .p (does_c (rcross_in cx cy dx dy ax ay (by omega) (by omega) (by omega) (by omega) (by omega) (by omega) (by omega) (by omega) (by omega) (by omega) (by omega) (by omega))) <| .p (does_c (rsign_ok (Sp.crs cx cy dx dy ax ay))) <| .a 3 5 <|
      .p (does_c (rcross_in cx cy dx dy bx b_y (by omega) (by omega) (by omega) (by omega) (by omega) (by omega) (by omega) (by omega) (by omega) (by omega) (by omega) (by omega))) <| .p (does_c (rsign_ok (Sp.crs cx cy dx dy bx b_y))) <|
      .p (does_i ((Sp.sgn (Sp.crs cx cy dx dy ax ay)) * (Sp.sgn (Sp.crs cx cy dx dy bx b_y))) (wrap_i64 (by omega) (by omega)) .i64) <| .a 2 5 <| .nil _ _) ?_
    refine aw_cd 26 27 (decide (((Sp.sgn (Sp.crs cx cy dx dy ax ay)) * (Sp.sgn (Sp.crs cx cy dx dy bx b_y))) ≤ 0)) (fun h2 => ?_) (fun h2 => ?_)
    · have h2p : ((((Sp.sgn (Sp.crs cx cy dx dy ax ay)) * (Sp.sgn (Sp.crs cx cy dx dy bx b_y))) ≤ 0)) := by first | (simpa using h2) | (have h2q := h2; simp at h2q; omega) | (have h2q := bx1 h2; simp at h2q; omega)
      refine aw_p 53 (
        .a 1 5 <| .nil _ _) ?_
      refine aw_rt ?_
      refine then_ret ?_
      exact en_ret [.int .i64 1] (show (.int .i64 1 : Value) = (.int .i64 (Sp.crossN ax ay bx b_y cx cy dx dy)) from (congrArg (Value.int .i64) (show 1 = (Sp.crossN ax ay bx b_y cx cy dx dy) from by (simp [Sp.crossN, Sp.crossing, *]))))
    · have h2p : ¬ ((((Sp.sgn (Sp.crs cx cy dx dy ax ay)) * (Sp.sgn (Sp.crs cx cy dx dy bx b_y))) ≤ 0)) := by first | (simpa using h2) | (have h2q := h2; simp at h2q; omega) | (have h2q := bx2 h2; simp at h2q; omega)
      refine aw_sk ?_
      refine then_normal ?_
      refine aw_p 15 (
        .a 1 5 <| .nil _ _) ?_
      refine aw_rt ?_
      exact en_ret [.int .i64 0] (show (.int .i64 0 : Value) = (.int .i64 (Sp.crossN ax ay bx b_y cx cy dx dy)) from (congrArg (Value.int .i64) (show 0 = (Sp.crossN ax ay bx b_y cx cy dx dy) from by (simp [Sp.crossN, Sp.crossing, *]))))
  · have h1p : ¬ ((((Sp.sgn (Sp.crs ax ay bx b_y cx cy)) * (Sp.sgn (Sp.crs ax ay bx b_y dx dy))) ≤ 0)) := by first | (simpa using h1) | (have h1q := h1; simp at h1q; omega) | (have h1q := bx2 h1; simp at h1q; omega)
    refine aw_d 13 (
      .a 3 5 <| .p (does_c (rcross_in ax ay bx b_y cx cy (by omega) (by omega) (by omega) (by omega) (by omega) (by omega) (by omega) (by omega) (by omega) (by omega) (by omega) (by omega))) <| .p (does_c (rsign_ok (Sp.crs ax ay bx b_y cx cy))) <| .a 3 5 <|
      .p (does_c (rcross_in ax ay bx b_y dx dy (by omega) (by omega) (by omega) (by omega) (by omega) (by omega) (by omega) (by omega) (by omega) (by omega) (by omega) (by omega))) <| .p (does_c (rsign_ok (Sp.crs ax ay bx b_y dx dy))) <|
      .p (does_i ((Sp.sgn (Sp.crs ax ay bx b_y cx cy)) * (Sp.sgn (Sp.crs ax ay bx b_y dx dy))) (wrap_i64 (by omega) (by omega)) .i64) <| .p (does_b false (h1)) <| .a 14 5 <| .nil _ _) ?_
    refine aw_fl 27 ?_
    refine aw_sk ?_
    refine then_normal ?_
    refine aw_p 15 (
      .a 1 5 <| .nil _ _) ?_
    refine aw_rt ?_
    exact en_ret [.int .i64 0] (show (.int .i64 0 : Value) = (.int .i64 (Sp.crossN ax ay bx b_y cx cy dx dy)) from (congrArg (Value.int .i64) (show 0 = (Sp.crossN ax ay bx b_y cx cy dx dy) from by (simp [Sp.crossN, Sp.crossing, *]))))

theorem rlies_in (ax ay bx b_y cx cy : Int) (axl : -1048576 ≤ ax) (axu : ax ≤ 1048576) (ayl : -1048576 ≤ ay) (ayu : ay ≤ 1048576) (bxl : -1048576 ≤ bx) (bxu : bx ≤ 1048576) (b_yl : -1048576 ≤ b_y) (b_yu : b_y ≤ 1048576) (cxl : -1048576 ≤ cx) (cxu : cx ≤ 1048576) (cyl : -1048576 ≤ cy) (cyu : cy ≤ 1048576) : AC Try.prog 23 0 [.agg #[.int .i64 ax, .int .i64 ay], .agg #[.int .i64 bx, .int .i64 b_y], .agg #[.int .i64 cx, .int .i64 cy]] [] (.bool (Sp.onb ax ay bx b_y cx cy)) [] := by
  have h := rlies_ok ax ay bx b_y cx cy
  simp only [Sp.lim_id axl axu, Sp.lim_id ayl ayu, Sp.lim_id bxl bxu, Sp.lim_id b_yl b_yu, Sp.lim_id cxl cxu, Sp.lim_id cyl cyu] at h
  exact h
theorem rvalid_in (ax ay : Int) (axl : -1048576 ≤ ax) (axu : ax ≤ 1048576) (ayl : -1048576 ≤ ay) (ayu : ay ≤ 1048576) : AC Try.prog 22 0 [.agg #[.int .i64 ax, .int .i64 ay]] [] (.agg #[.int .i64 ax, .int .i64 ay]) [] := by
  have h := rvalid_ok ax ay
  simp only [Sp.lim_id axl axu, Sp.lim_id ayl ayu] at h
  exact h

end Go.Proofs.Ytigllakcfdoagaa.Am
