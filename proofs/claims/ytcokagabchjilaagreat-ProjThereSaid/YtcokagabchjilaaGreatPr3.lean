/-
  The walks of places.
-/
import Derived.Test.YtcokagabchjilaaGreatProg
import Derived.Test.YtcokagabchjilaaGreatAm16
import Derived.Test.YtcokagabchjilaaGreatPr1
import Derived.Test.YtcokagabchjilaaGreatPj3
import Derived.Test.YtcokagabchjilaaGreatPt1
namespace Go.Proofs.YtcokagabchjilaaGreat.Am
open Go Go.Proofs
set_option maxRecDepth 100000
set_option maxHeartbeats 4000000
set_option linter.unusedVariables false
set_option linter.unusedSimpArgs false

theorem pcheck_no (slat slon sc : Int) (h : slat < -80000000 ∨ 80000000 < slat ∨ slon < -180000000 ∨ 180000000 < slon ∨ sc < 1 ∨ 10000 < sc) :
    AC Tryz.prog 24 0 ([.agg #[.int .i64 slat, .int .i64 slon, .int .i64 sc]]) [] (.int .i64 1) [] := by
  refine ac_in Tryz.func24 (fun w0 W pin => ?_)
  refine aw_p 3 (
    .a 2 1 <| .nil _ _) ?_
  refine aw_sq 6 7 ?_
  rcases Bool.eq_false_or_eq_true (decide (slat < (-80000000))) with h1 | h1
  · have h1p : ((slat < (-80000000))) := by first | (simpa using h1) | (have h1q := h1; simp at h1q; omega) | (have h1q := bx1 h1; simp at h1q; omega)
    refine aw_p 13 (
      .a 2 2 <| .p (does_b true (h1)) <| .a 25 2 <| .nil _ _) ?_
    refine aw_tr 26 ?_
    refine aw_p 53 (
      .a 1 2 <| .nil _ _) ?_
    refine aw_rt ?_
    refine then_ret ?_
    exact en_ret [.int .i64 1] (by kernel_rfl)
  · have h1p : ¬ ((slat < (-80000000))) := by first | (simpa using h1) | (have h1q := h1; simp at h1q; omega) | (have h1q := bx2 h1; simp at h1q; omega)
    rcases Bool.eq_false_or_eq_true (decide (slat > 80000000)) with h2 | h2
    · have h2p : ((slat > 80000000)) := by first | (simpa using h2) | (have h2q := h2; simp at h2q; omega) | (have h2q := bx1 h2; simp at h2q; omega)
      refine aw_p 13 (
        .a 2 2 <| .p (does_b false (h1)) <| .a 3 2 <| .p (does_b true (h2)) <| .a 21 2 <| .nil _ _) ?_
      refine aw_tr 26 ?_
      refine aw_p 53 (
        .a 1 2 <| .nil _ _) ?_
      refine aw_rt ?_
      refine then_ret ?_
      exact en_ret [.int .i64 1] (by kernel_rfl)
    · have h2p : ¬ ((slat > 80000000)) := by first | (simpa using h2) | (have h2q := h2; simp at h2q; omega) | (have h2q := bx2 h2; simp at h2q; omega)
      rcases Bool.eq_false_or_eq_true (decide (slon < (-180000000))) with h3 | h3
      · have h3p : ((slon < (-180000000))) := by first | (simpa using h3) | (have h3q := h3; simp at h3q; omega) | (have h3q := bx1 h3; simp at h3q; omega)
        refine aw_p 13 (
          .a 2 2 <| .p (does_b false (h1)) <| .a 3 2 <| .p (does_b false (h2)) <| .a 4 2 <| .p (does_b true (h3)) <| .a 16 2 <| .nil _ _) ?_
        refine aw_tr 26 ?_
        refine aw_p 53 (
          .a 1 2 <| .nil _ _) ?_
        refine aw_rt ?_
        refine then_ret ?_
        exact en_ret [.int .i64 1] (by kernel_rfl)
      · have h3p : ¬ ((slon < (-180000000))) := by first | (simpa using h3) | (have h3q := h3; simp at h3q; omega) | (have h3q := bx2 h3; simp at h3q; omega)
        rcases Bool.eq_false_or_eq_true (decide (slon > 180000000)) with h4 | h4
        · have h4p : ((slon > 180000000)) := by first | (simpa using h4) | (have h4q := h4; simp at h4q; omega) | (have h4q := bx1 h4; simp at h4q; omega)
          refine aw_p 13 (
            .a 2 2 <| .p (does_b false (h1)) <| .a 3 2 <| .p (does_b false (h2)) <| .a 4 2 <| .p (does_b false (h3)) <| .a 4 2 <| .p (does_b true (h4)) <| .a 11 2 <| .nil _ _) ?_
          refine aw_tr 26 ?_
          refine aw_p 53 (
            .a 1 2 <| .nil _ _) ?_
          refine aw_rt ?_
          refine then_ret ?_
          exact en_ret [.int .i64 1] (by kernel_rfl)
        · have h4p : ¬ ((slon > 180000000)) := by first | (simpa using h4) | (have h4q := h4; simp at h4q; omega) | (have h4q := bx2 h4; simp at h4q; omega)
          rcases Bool.eq_false_or_eq_true (decide (sc < 1)) with h5 | h5
          · have h5p : ((sc < 1)) := by first | (simpa using h5) | (have h5q := h5; simp at h5q; omega) | (have h5q := bx1 h5; simp at h5q; omega)
            refine aw_p 13 (
              .a 2 2 <| .p (does_b false (h1)) <| .a 3 2 <| .p (does_b false (h2)) <| .a 4 2 <| .p (does_b false (h3)) <| .a 4 2 <| .p (does_b false (h4)) <| .a 4 2 <| .p (does_b true (h5)) <| .a 6 2 <| .nil _ _) ?_
            refine aw_tr 26 ?_
            refine aw_p 53 (
              .a 1 2 <| .nil _ _) ?_
            refine aw_rt ?_
            refine then_ret ?_
            exact en_ret [.int .i64 1] (by kernel_rfl)
          · have h5p : ¬ ((sc < 1)) := by first | (simpa using h5) | (have h5q := h5; simp at h5q; omega) | (have h5q := bx2 h5; simp at h5q; omega)
            refine aw_p 13 (
              .a 2 2 <| .p (does_b false (h1)) <| .a 3 2 <| .p (does_b false (h2)) <| .a 4 2 <| .p (does_b false (h3)) <| .a 4 2 <| .p (does_b false (h4)) <| .a 4 2 <| .p (does_b false (h5)) <| .a 6 2 <| .nil _ _) ?_
            refine aw_cd 26 27 (decide (sc > 10000)) (fun h6 => ?_) (fun h6 => ?_)
            · have h6p : ((sc > 10000)) := by first | (simpa using h6) | (have h6q := h6; simp at h6q; omega) | (have h6q := bx1 h6; simp at h6q; omega)
              refine aw_p 53 (
                .a 1 2 <| .nil _ _) ?_
              refine aw_rt ?_
              refine then_ret ?_
              exact en_ret [.int .i64 1] (by kernel_rfl)
            · have h6p : ¬ ((sc > 10000)) := by first | (simpa using h6) | (have h6q := h6; simp at h6q; omega) | (have h6q := bx2 h6; simp at h6q; omega)
              refine aw_sk ?_
              refine then_normal ?_
              refine aw_p 15 (
                .a 1 2 <| .nil _ _) ?_
              refine aw_rt ?_
              exact en_ret [.int .i64 0] (show (.int .i64 0 : Value) = (.int .i64 1) from (congrArg (Value.int .i64) (show 0 = 1 from by (exfalso; omega))))

theorem pcheck_ok (slat slon sc : Int) (s0 : -80000000 ≤ slat) (s1 : slat ≤ 80000000) (s2 : -180000000 ≤ slon) (s3 : slon ≤ 180000000) (s4 : 1 ≤ sc) (s5 : sc ≤ 10000) :
    AC Tryz.prog 24 0 ([.agg #[.int .i64 slat, .int .i64 slon, .int .i64 sc]]) [] (.int .i64 0) [] := by
  refine ac_in Tryz.func24 (fun w0 W pin => ?_)
  refine aw_p 3 (
    .a 2 1 <| .nil _ _) ?_
  refine aw_sq 6 7 ?_
  refine aw_p 13 (
    .a 2 2 <| .p (does_b false ((show (decide (slat < (-80000000))) = false from decide_eq_false (by omega)))) <| .a 3 2 <| .p (does_b false ((show (decide (slat > 80000000)) = false from decide_eq_false (by omega)))) <| .a 4 2 <|
    .p (does_b false ((show (decide (slon < (-180000000))) = false from decide_eq_false (by omega)))) <| .a 4 2 <| .p (does_b false ((show (decide (slon > 180000000)) = false from decide_eq_false (by omega)))) <| .a 4 2 <|
    .p (does_b false ((show (decide (sc < 1)) = false from decide_eq_false (by omega)))) <| .a 4 2 <| .p (does_b false ((show (decide (sc > 10000)) = false from decide_eq_false (by omega)))) <| .a 1 2 <| .nil _ _) ?_
  refine aw_fl 27 ?_
  refine aw_sk ?_
  refine then_normal ?_
  refine aw_p 15 (
    .a 1 2 <| .nil _ _) ?_
  refine aw_rt ?_
  exact en_ret [.int .i64 0] (by kernel_rfl)

theorem to_no (slat slon sc lat lon : Int) (h : slat < -80000000 ∨ 80000000 < slat ∨ slon < -180000000 ∨ 180000000 < slon ∨ sc < 1 ∨ 10000 < sc ∨ lat < -80000000 ∨ 80000000 < lat ∨ lon < -180000000 ∨ 180000000 < lon) :
    AC Tryz.prog 21 0 ([.agg #[.int .i64 slat, .int .i64 slon, .int .i64 sc], .int .i64 lat, .int .i64 lon]) [] (.tuple #[.agg #[.int .i64 0, .int .i64 0, .int .i64 0, .int .i64 0], .agg #[.int .i64 0, .int .i64 0, .int .i64 0, .int .i64 0], .int .i64 1]) [] := by
  refine ac_in Tryz.func21 (fun w0 W pin => ?_)
  refine aw_p 3 (
    .a 4 1 <| .nil _ _) ?_
  refine aw_sq 6 7 ?_
  rcases Bool.eq_false_or_eq_true (decide (slat < (-80000000))) with h1 | h1
  · have h1p : ((slat < (-80000000))) := by first | (simpa using h1) | (have h1q := h1; simp at h1q; omega) | (have h1q := bx1 h1; simp at h1q; omega)
    refine aw_p 13 (
      .a 1 4 <| .p (does_c (pcheck_no slat slon sc (by omega))) <| .a 1 4 <| .nil _ _) ?_
    refine aw_p 27 (
      .a 2 4 <| .nil _ _) ?_
    refine aw_tr 54 ?_
    refine aw_p 109 (
      .a 6 4 <| .nil _ _) ?_
    refine aw_rt ?_
    refine then_ret ?_
    exact en_ret [.agg #[.int .i64 0, .int .i64 0, .int .i64 0, .int .i64 0], .agg #[.int .i64 0, .int .i64 0, .int .i64 0, .int .i64 0], .int .i64 1] (by kernel_rfl)
  · have h1p : ¬ ((slat < (-80000000))) := by first | (simpa using h1) | (have h1q := h1; simp at h1q; omega) | (have h1q := bx2 h1; simp at h1q; omega)
    rcases Bool.eq_false_or_eq_true (decide (slat > 80000000)) with h2 | h2
    · have h2p : ((slat > 80000000)) := by first | (simpa using h2) | (have h2q := h2; simp at h2q; omega) | (have h2q := bx1 h2; simp at h2q; omega)
      refine aw_p 13 (
        .a 1 4 <| .p (does_c (pcheck_no slat slon sc (by omega))) <| .a 1 4 <| .nil _ _) ?_
      refine aw_p 27 (
        .a 2 4 <| .nil _ _) ?_
      refine aw_tr 54 ?_
      refine aw_p 109 (
        .a 6 4 <| .nil _ _) ?_
      refine aw_rt ?_
      refine then_ret ?_
      exact en_ret [.agg #[.int .i64 0, .int .i64 0, .int .i64 0, .int .i64 0], .agg #[.int .i64 0, .int .i64 0, .int .i64 0, .int .i64 0], .int .i64 1] (by kernel_rfl)
    · have h2p : ¬ ((slat > 80000000)) := by first | (simpa using h2) | (have h2q := h2; simp at h2q; omega) | (have h2q := bx2 h2; simp at h2q; omega)
      rcases Bool.eq_false_or_eq_true (decide (slon < (-180000000))) with h3 | h3
      · have h3p : ((slon < (-180000000))) := by first | (simpa using h3) | (have h3q := h3; simp at h3q; omega) | (have h3q := bx1 h3; simp at h3q; omega)
        refine aw_p 13 (
          .a 1 4 <| .p (does_c (pcheck_no slat slon sc (by omega))) <| .a 1 4 <| .nil _ _) ?_
        refine aw_p 27 (
          .a 2 4 <| .nil _ _) ?_
        refine aw_tr 54 ?_
        refine aw_p 109 (
          .a 6 4 <| .nil _ _) ?_
        refine aw_rt ?_
        refine then_ret ?_
        exact en_ret [.agg #[.int .i64 0, .int .i64 0, .int .i64 0, .int .i64 0], .agg #[.int .i64 0, .int .i64 0, .int .i64 0, .int .i64 0], .int .i64 1] (by kernel_rfl)
      · have h3p : ¬ ((slon < (-180000000))) := by first | (simpa using h3) | (have h3q := h3; simp at h3q; omega) | (have h3q := bx2 h3; simp at h3q; omega)
        rcases Bool.eq_false_or_eq_true (decide (slon > 180000000)) with h4 | h4
        · have h4p : ((slon > 180000000)) := by first | (simpa using h4) | (have h4q := h4; simp at h4q; omega) | (have h4q := bx1 h4; simp at h4q; omega)
          refine aw_p 13 (
            .a 1 4 <| .p (does_c (pcheck_no slat slon sc (by omega))) <| .a 1 4 <| .nil _ _) ?_
          refine aw_p 27 (
            .a 2 4 <| .nil _ _) ?_
          refine aw_tr 54 ?_
          refine aw_p 109 (
            .a 6 4 <| .nil _ _) ?_
          refine aw_rt ?_
          refine then_ret ?_
          exact en_ret [.agg #[.int .i64 0, .int .i64 0, .int .i64 0, .int .i64 0], .agg #[.int .i64 0, .int .i64 0, .int .i64 0, .int .i64 0], .int .i64 1] (by kernel_rfl)
        · have h4p : ¬ ((slon > 180000000)) := by first | (simpa using h4) | (have h4q := h4; simp at h4q; omega) | (have h4q := bx2 h4; simp at h4q; omega)
          rcases Bool.eq_false_or_eq_true (decide (sc < 1)) with h5 | h5
          · have h5p : ((sc < 1)) := by first | (simpa using h5) | (have h5q := h5; simp at h5q; omega) | (have h5q := bx1 h5; simp at h5q; omega)
            refine aw_p 13 (
              .a 1 4 <| .p (does_c (pcheck_no slat slon sc (by omega))) <| .a 1 4 <| .nil _ _) ?_
            refine aw_p 27 (
              .a 2 4 <| .nil _ _) ?_
            refine aw_tr 54 ?_
            refine aw_p 109 (
              .a 6 4 <| .nil _ _) ?_
            refine aw_rt ?_
            refine then_ret ?_
            exact en_ret [.agg #[.int .i64 0, .int .i64 0, .int .i64 0, .int .i64 0], .agg #[.int .i64 0, .int .i64 0, .int .i64 0, .int .i64 0], .int .i64 1] (by kernel_rfl)
          · have h5p : ¬ ((sc < 1)) := by first | (simpa using h5) | (have h5q := h5; simp at h5q; omega) | (have h5q := bx2 h5; simp at h5q; omega)
            rcases Bool.eq_false_or_eq_true (decide (sc > 10000)) with h6 | h6
            · have h6p : ((sc > 10000)) := by first | (simpa using h6) | (have h6q := h6; simp at h6q; omega) | (have h6q := bx1 h6; simp at h6q; omega)
              refine aw_p 13 (
                .a 1 4 <| .p (does_c (pcheck_no slat slon sc (by omega))) <| .a 1 4 <| .nil _ _) ?_
              refine aw_p 27 (
                .a 2 4 <| .nil _ _) ?_
              refine aw_tr 54 ?_
              refine aw_p 109 (
                .a 6 4 <| .nil _ _) ?_
              refine aw_rt ?_
              refine then_ret ?_
              exact en_ret [.agg #[.int .i64 0, .int .i64 0, .int .i64 0, .int .i64 0], .agg #[.int .i64 0, .int .i64 0, .int .i64 0, .int .i64 0], .int .i64 1] (by kernel_rfl)
            · have h6p : ¬ ((sc > 10000)) := by first | (simpa using h6) | (have h6q := h6; simp at h6q; omega) | (have h6q := bx2 h6; simp at h6q; omega)
              refine aw_p 13 (
                .a 1 4 <| .p (does_c (pcheck_ok slat slon sc (by omega) (by omega) (by omega) (by omega) (by omega) (by omega))) <| .a 1 4 <| .nil _ _) ?_
              refine aw_p 27 (
                .a 2 4 <| .nil _ _) ?_
              refine aw_fl 55 ?_
              refine aw_sk ?_
              refine then_normal ?_
              refine aw_sq 14 15 ?_
              rcases Bool.eq_false_or_eq_true (decide (lat < (-80000000))) with h7 | h7
              · have h7p : ((lat < (-80000000))) := by first | (simpa using h7) | (have h7q := h7; simp at h7q; omega) | (have h7q := bx1 h7; simp at h7q; omega)
                refine aw_p 29 (
                  .a 1 4 <| .p (does_b true (h7)) <| .a 12 4 <| .nil _ _) ?_
                refine aw_tr 58 ?_
                refine aw_p 117 (
                  .a 5 4 <| .nil _ _) ?_
                refine aw_rt ?_
                refine then_ret ?_
                exact en_ret [.agg #[.int .i64 0, .int .i64 0, .int .i64 0, .int .i64 0], .agg #[.int .i64 0, .int .i64 0, .int .i64 0, .int .i64 0], .int .i64 1] (by kernel_rfl)
              · have h7p : ¬ ((lat < (-80000000))) := by first | (simpa using h7) | (have h7q := h7; simp at h7q; omega) | (have h7q := bx2 h7; simp at h7q; omega)
                rcases Bool.eq_false_or_eq_true (decide (lat > 80000000)) with h8 | h8
                · have h8p : ((lat > 80000000)) := by first | (simpa using h8) | (have h8q := h8; simp at h8q; omega) | (have h8q := bx1 h8; simp at h8q; omega)
                  refine aw_p 29 (
                    .a 1 4 <| .p (does_b false (h7)) <| .a 2 4 <| .p (does_b true (h8)) <| .a 9 4 <| .nil _ _) ?_
                  refine aw_tr 58 ?_
                  refine aw_p 117 (
                    .a 5 4 <| .nil _ _) ?_
                  refine aw_rt ?_
                  refine then_ret ?_
                  exact en_ret [.agg #[.int .i64 0, .int .i64 0, .int .i64 0, .int .i64 0], .agg #[.int .i64 0, .int .i64 0, .int .i64 0, .int .i64 0], .int .i64 1] (by kernel_rfl)
                · have h8p : ¬ ((lat > 80000000)) := by first | (simpa using h8) | (have h8q := h8; simp at h8q; omega) | (have h8q := bx2 h8; simp at h8q; omega)
                  rcases Bool.eq_false_or_eq_true (decide (lon < (-180000000))) with h9 | h9
                  · have h9p : ((lon < (-180000000))) := by first | (simpa using h9) | (have h9q := h9; simp at h9q; omega) | (have h9q := bx1 h9; simp at h9q; omega)
                    refine aw_p 29 (
                      .a 1 4 <| .p (does_b false (h7)) <| .a 2 4 <| .p (does_b false (h8)) <| .a 3 4 <| .p (does_b true (h9)) <| .a 5 4 <| .nil _ _) ?_
                    refine aw_tr 58 ?_
                    refine aw_p 117 (
                      .a 5 4 <| .nil _ _) ?_
                    refine aw_rt ?_
                    refine then_ret ?_
                    exact en_ret [.agg #[.int .i64 0, .int .i64 0, .int .i64 0, .int .i64 0], .agg #[.int .i64 0, .int .i64 0, .int .i64 0, .int .i64 0], .int .i64 1] (by kernel_rfl)
                  · have h9p : ¬ ((lon < (-180000000))) := by first | (simpa using h9) | (have h9q := h9; simp at h9q; omega) | (have h9q := bx2 h9; simp at h9q; omega)
                    refine aw_p 29 (
                      .a 1 4 <| .p (does_b false (h7)) <| .a 2 4 <| .p (does_b false (h8)) <| .a 3 4 <| .p (does_b false (h9)) <| .a 3 4 <| .p (does_b true ((show (decide (lon > 180000000)) = true from decide_eq_true (by omega)))) <| .a 1 4 <| .nil _ _) ?_
                    refine aw_tr 58 ?_
                    refine aw_p 117 (
                      .a 5 4 <| .nil _ _) ?_
                    refine aw_rt ?_
                    refine then_ret ?_
                    exact en_ret [.agg #[.int .i64 0, .int .i64 0, .int .i64 0, .int .i64 0], .agg #[.int .i64 0, .int .i64 0, .int .i64 0, .int .i64 0], .int .i64 1] (by kernel_rfl)

theorem to_ok (slat slon sc lat lon : Int) (s0 : -80000000 ≤ slat) (s1 : slat ≤ 80000000) (s2 : -180000000 ≤ slon) (s3 : slon ≤ 180000000) (s4 : 1 ≤ sc) (s5 : sc ≤ 10000) (t0 : -80000000 ≤ lat) (t1 : lat ≤ 80000000) (t2 : -180000000 ≤ lon) (t3 : lon ≤ 180000000) :
    AC Tryz.prog 21 0 ([.agg #[.int .i64 slat, .int .i64 slon, .int .i64 sc], .int .i64 lat, .int .i64 lon]) [] (.tuple #[.agg #[.int .i64 (Sp.qn (Sp.fx 65536 ((Sp.acr slat slon sc lon).1))), .int .i64 (Sp.qd (Sp.fx 65536 ((Sp.acr slat slon sc lon).1))), .int .i64 (Sp.qn (Sp.fx 65536 ((Sp.acr slat slon sc lon).2))), .int .i64 (Sp.qd (Sp.fx 65536 ((Sp.acr slat slon sc lon).2)))], .agg #[.int .i64 (Sp.qn (Sp.fx 1000000 ((lat - slat) * sc))), .int .i64 (Sp.qd (Sp.fx 1000000 ((lat - slat) * sc))), .int .i64 (Sp.qn (Sp.fx 1000000 ((lat - slat) * sc))), .int .i64 (Sp.qd (Sp.fx 1000000 ((lat - slat) * sc)))], .int .i64 0]) [] := by
  have rb := Sp.rad_bd s0 s1; have qb := Sp.sqr_bd s0 s1; have tb := Sp.tq_bd s0 s1; have mm := Sp.mm0 (Sp.tq slat).1 (Sp.tq slat).2; have cb0 : (((-272502661 ≤ (Sp.cs slat 0).1 ∧ (Sp.cs slat 0).1 ≤ 272502661) ∧ (-272502661 ≤ (Sp.cs slat 0).2 ∧ (Sp.cs slat 0).2 ≤ 272502661)) ∧ (Sp.cs slat 0).1 ≤ (Sp.cs slat 0).2) := Sp.cs_bd s0 s1 0 (by decide); have cb1 : (((-274491073 ≤ (Sp.cs slat 1).1 ∧ (Sp.cs slat 1).1 ≤ 274491073) ∧ (-274491073 ≤ (Sp.cs slat 1).2 ∧ (Sp.cs slat 1).2 ≤ 274491073)) ∧ (Sp.cs slat 1).1 ≤ (Sp.cs slat 1).2) := Sp.cs_bd s0 s1 1 (by decide); have cb2 : (((-278238711 ≤ (Sp.cs slat 2).1 ∧ (Sp.cs slat 2).1 ≤ 278238711) ∧ (-278238711 ≤ (Sp.cs slat 2).2 ∧ (Sp.cs slat 2).2 ≤ 278238711)) ∧ (Sp.cs slat 2).1 ≤ (Sp.cs slat 2).2) := Sp.cs_bd s0 s1 2 (by decide); have cb3 : (((-286984706 ≤ (Sp.cs slat 3).1 ∧ (Sp.cs slat 3).1 ≤ 286984706) ∧ (-286984706 ≤ (Sp.cs slat 3).2 ∧ (Sp.cs slat 3).2 ≤ 286984706)) ∧ (Sp.cs slat 3).1 ≤ (Sp.cs slat 3).2) := Sp.cs_bd s0 s1 3 (by decide); have cb4 : (((-316266242 ≤ (Sp.cs slat 4).1 ∧ (Sp.cs slat 4).1 ≤ 316266242) ∧ (-316266242 ≤ (Sp.cs slat 4).2 ∧ (Sp.cs slat 4).2 ≤ 316266242)) ∧ (Sp.cs slat 4).1 ≤ (Sp.cs slat 4).2) := Sp.cs_bd s0 s1 4 (by decide); have cb5 : (((-584701700 ≤ (Sp.cs slat 5).1 ∧ (Sp.cs slat 5).1 ≤ 584701700) ∧ (-584701700 ≤ (Sp.cs slat 5).2 ∧ (Sp.cs slat 5).2 ≤ 584701700)) ∧ (Sp.cs slat 5).1 ≤ (Sp.cs slat 5).2) := Sp.cs_bd s0 s1 5 (by decide); have wb := Sp.wy_bd s2 s3 t2 t3 s4 s5; have vb := Sp.v_bd s0 s1 t0 t1 s4 s5; have m0 := Sp.mul_bd (a := (Sp.wy slon sc lon).1) (b := (Sp.cs slat 5).1) (A := 14745600000) (B := 584701700) (by omega) (by omega) (by omega) (by omega); have m1 := Sp.mul_bd (a := (Sp.wy slon sc lon).1) (b := (Sp.cs slat 5).2) (A := 14745600000) (B := 584701700) (by omega) (by omega) (by omega) (by omega); have m2 := Sp.mul_bd (a := (Sp.wy slon sc lon).2) (b := (Sp.cs slat 5).1) (A := 14745600000) (B := 584701700) (by omega) (by omega) (by omega) (by omega); have m3 := Sp.mul_bd (a := (Sp.wy slon sc lon).2) (b := (Sp.cs slat 5).2) (A := 14745600000) (B := 584701700) (by omega) (by omega) (by omega) (by omega); have of := Sp.oq_fit (D := 4096) (E := 268435456) (K := 16777216) (N := 65536) (a := (Sp.wy slon sc lon).1) (b := (Sp.wy slon sc lon).2) (c := (Sp.cs slat 5).1) (d := (Sp.cs slat 5).2) (by decide) (by decide) (by decide) (by decide) (by decide) (by decide) ⟨by omega, by omega⟩ ⟨by omega, by omega⟩ ⟨by omega, by omega⟩ ⟨by omega, by omega⟩; have ox := Sp.oq_fx (D := 4096) (E := 268435456) (K := 16777216) (N := 65536) (by decide) (by decide) (by decide) (by decide) (by decide) (Sp.wy slon sc lon).1 (Sp.wy slon sc lon).2 (Sp.cs slat 5).1 (Sp.cs slat 5).2; unfold Sp.oL Sp.oH at ox
  refine ac_in Tryz.func21 (fun w0 W pin => ?_)
  refine aw_p 3 (
    .a 4 1 <| .nil _ _) ?_
  refine aw_sq 6 7 ?_
  refine aw_p 13 (
    .a 1 4 <| .p (does_c (pcheck_ok slat slon sc (by omega) (by omega) (by omega) (by omega) (by omega) (by omega))) <| .a 1 4 <| .nil _ _) ?_
  refine aw_p 27 (
    .a 2 4 <| .nil _ _) ?_
  refine aw_fl 55 ?_
  refine aw_sk ?_
  refine then_normal ?_
  refine aw_sq 14 15 ?_
  refine aw_p 29 (
    .a 1 4 <| .p (does_b false ((show (decide (lat < (-80000000))) = false from decide_eq_false (by omega)))) <| .a 2 4 <| .p (does_b false ((show (decide (lat > 80000000)) = false from decide_eq_false (by omega)))) <| .a 3 4 <|
    .p (does_b false ((show (decide (lon < (-180000000))) = false from decide_eq_false (by omega)))) <| .a 3 4 <| .p (does_b false ((show (decide (lon > 180000000)) = false from decide_eq_false (by omega)))) <| .a 1 4 <| .nil _ _) ?_
  refine aw_fl 59 ?_
  refine aw_sk ?_
  refine then_normal ?_
  refine aw_p 31 (
    .a 2 4 <| .p (does_c (cos_ok slat s0 s1)) <| .a 6 4 <| .nil _ _) ?_
  refine aw_p 63 (
    .a 3 5 <| .p (does_i (lon - slon) (wrap_i64 (by omega) (by omega)) .i64) <| .a 2 5 <| .p (does_i ((lon - slon) * sc) (wrap_i64 (by omega) (by omega)) .i64) <| .p (does_c (pof_ok ((lon - slon) * sc) 1000000 (by omega) (by omega) (by decide) (by decide))) <|
    .p (does_c ((by have h := (by have h := soutC_ok (Sp.qn (Sp.fx 1000000 ((lon - slon) * sc))) (Sp.qd (Sp.fx 1000000 ((lon - slon) * sc))) (by have := Sp.qn_bd (Sp.fx 1000000 ((lon - slon) * sc)); omega) (by have := Sp.qn_bd (Sp.fx 1000000 ((lon - slon) * sc)); omega) (by have := Sp.qd_bd (Sp.fx 1000000 ((lon - slon) * sc)); omega) (by have := Sp.qd_bd (Sp.fx 1000000 ((lon - slon) * sc)); omega) (Sp.qn (Sp.fx 1000000 ((lon - slon) * sc))) (Sp.qd (Sp.fx 1000000 ((lon - slon) * sc))) (by have := Sp.qn_bd (Sp.fx 1000000 ((lon - slon) * sc)); omega) (by have := Sp.qn_bd (Sp.fx 1000000 ((lon - slon) * sc)); omega) (by have := Sp.qd_bd (Sp.fx 1000000 ((lon - slon) * sc)); omega) (by have := Sp.qd_bd (Sp.fx 1000000 ((lon - slon) * sc)); omega) 4096 (by decide) (by decide) (by omega) (by omega) (show Sp.fitq ((Sp.sl (Sp.qn (Sp.fx 1000000 ((lon - slon) * sc))) (Sp.qd (Sp.fx 1000000 ((lon - slon) * sc))) (Sp.qn (Sp.fx 1000000 ((lon - slon) * sc))) (Sp.qd (Sp.fx 1000000 ((lon - slon) * sc)))) * ((4096 : Int) : Rat)) = true from (by rw [(Sp.sl_told (p := Sp.fx 1000000 ((lon - slon) * sc)) (q := Sp.fx 1000000 ((lon - slon) * sc)) (Sp.fx_fit (D := 1000000) (n := ((lon - slon) * sc)) (by decide) (by decide) (by omega) (by omega)) (Sp.fx_fit (D := 1000000) (n := ((lon - slon) * sc)) (by decide) (by decide) (by omega) (by omega)) Rat.le_refl).1]; exact (Sp.fxy_fit (D := 1000000) (N := 4096) (x := (lon - slon) * sc) (by decide) (by decide) (by omega) (by omega)).1)) (show Sp.fitq ((-(Sp.sh (Sp.qn (Sp.fx 1000000 ((lon - slon) * sc))) (Sp.qd (Sp.fx 1000000 ((lon - slon) * sc))) (Sp.qn (Sp.fx 1000000 ((lon - slon) * sc))) (Sp.qd (Sp.fx 1000000 ((lon - slon) * sc))))) * ((4096 : Int) : Rat)) = true from (by rw [(Sp.sl_told (p := Sp.fx 1000000 ((lon - slon) * sc)) (q := Sp.fx 1000000 ((lon - slon) * sc)) (Sp.fx_fit (D := 1000000) (n := ((lon - slon) * sc)) (by decide) (by decide) (by omega) (by omega)) (Sp.fx_fit (D := 1000000) (n := ((lon - slon) * sc)) (by decide) (by decide) (by omega) (by omega)) Rat.le_refl).2]; exact (Sp.fxy_fit (D := 1000000) (N := 4096) (x := (lon - slon) * sc) (by decide) (by decide) (by omega) (by omega)).2)); rw [(Sp.sl_told (p := Sp.fx 1000000 ((lon - slon) * sc)) (q := Sp.fx 1000000 ((lon - slon) * sc)) (Sp.fx_fit (D := 1000000) (n := ((lon - slon) * sc)) (by decide) (by decide) (by omega) (by omega)) (Sp.fx_fit (D := 1000000) (n := ((lon - slon) * sc)) (by decide) (by decide) (by omega) (by omega)) Rat.le_refl).1, (Sp.sl_told (p := Sp.fx 1000000 ((lon - slon) * sc)) (q := Sp.fx 1000000 ((lon - slon) * sc)) (Sp.fx_fit (D := 1000000) (n := ((lon - slon) * sc)) (by decide) (by decide) (by omega) (by omega)) (Sp.fx_fit (D := 1000000) (n := ((lon - slon) * sc)) (by decide) (by decide) (by omega) (by omega)) Rat.le_refl).2, (Sp.dv_yes (a := ((Rat.floor ((Sp.fx 1000000 ((lon - slon) * sc)) * ((4096 : Int) : Rat)) : Int) : Rat)) (Sp.cast_ne1 (n := 4096) (by omega))).1, (Sp.dv_yes (a := ((Rat.floor ((Sp.fx 1000000 ((lon - slon) * sc)) * ((4096 : Int) : Rat)) : Int) : Rat)) (Sp.cast_ne1 (n := 4096) (by omega))).2.1, (Sp.dv_yes (a := ((-Rat.floor ((-(Sp.fx 1000000 ((lon - slon) * sc))) * ((4096 : Int) : Rat)) : Int) : Rat)) (Sp.cast_ne1 (n := 4096) (by omega))).1, (Sp.dv_yes (a := ((-Rat.floor ((-(Sp.fx 1000000 ((lon - slon) * sc))) * ((4096 : Int) : Rat)) : Int) : Rat)) (Sp.cast_ne1 (n := 4096) (by omega))).2.1] at h; exact h); rw [Sp.oL_fz (D := 1000000) (N := 4096) (by decide) ((lon - slon) * sc), Sp.oH_fz (D := 1000000) (N := 4096) (by decide) ((lon - slon) * sc)] at h; exact h))) <|
    .a 6 5 <| .nil _ _) ?_
  refine aw_p 127 (
    .a 2 6 <|
    .p (does_c ((by have h := smul_ok (Sp.qn (Sp.fx 4096 ((Sp.wy slon sc lon).1))) (Sp.qd (Sp.fx 4096 ((Sp.wy slon sc lon).1))) (by have := Sp.qn_bd (Sp.fx 4096 ((Sp.wy slon sc lon).1)); omega) (by have := Sp.qn_bd (Sp.fx 4096 ((Sp.wy slon sc lon).1)); omega) (by have := Sp.qd_bd (Sp.fx 4096 ((Sp.wy slon sc lon).1)); omega) (by have := Sp.qd_bd (Sp.fx 4096 ((Sp.wy slon sc lon).1)); omega) (Sp.qn (Sp.fx 4096 ((Sp.wy slon sc lon).2))) (Sp.qd (Sp.fx 4096 ((Sp.wy slon sc lon).2))) (by have := Sp.qn_bd (Sp.fx 4096 ((Sp.wy slon sc lon).2)); omega) (by have := Sp.qn_bd (Sp.fx 4096 ((Sp.wy slon sc lon).2)); omega) (by have := Sp.qd_bd (Sp.fx 4096 ((Sp.wy slon sc lon).2)); omega) (by have := Sp.qd_bd (Sp.fx 4096 ((Sp.wy slon sc lon).2)); omega) (Sp.qn (Sp.fx 268435456 ((Sp.cs slat 5).1))) (Sp.qd (Sp.fx 268435456 ((Sp.cs slat 5).1))) (by have := Sp.qn_bd (Sp.fx 268435456 ((Sp.cs slat 5).1)); omega) (by have := Sp.qn_bd (Sp.fx 268435456 ((Sp.cs slat 5).1)); omega) (by have := Sp.qd_bd (Sp.fx 268435456 ((Sp.cs slat 5).1)); omega) (by have := Sp.qd_bd (Sp.fx 268435456 ((Sp.cs slat 5).1)); omega) (Sp.qn (Sp.fx 268435456 ((Sp.cs slat 5).2))) (Sp.qd (Sp.fx 268435456 ((Sp.cs slat 5).2))) (by have := Sp.qn_bd (Sp.fx 268435456 ((Sp.cs slat 5).2)); omega) (by have := Sp.qn_bd (Sp.fx 268435456 ((Sp.cs slat 5).2)); omega) (by have := Sp.qd_bd (Sp.fx 268435456 ((Sp.cs slat 5).2)); omega) (by have := Sp.qd_bd (Sp.fx 268435456 ((Sp.cs slat 5).2)); omega); rw [(Sp.sl_told (p := Sp.fx 4096 ((Sp.wy slon sc lon).1)) (q := Sp.fx 4096 ((Sp.wy slon sc lon).2)) (Sp.fx_fit (D := 4096) (n := ((Sp.wy slon sc lon).1)) (by decide) (by decide) (by omega) (by omega)) (Sp.fx_fit (D := 4096) (n := ((Sp.wy slon sc lon).2)) (by decide) (by decide) (by omega) (by omega)) ((Sp.fx_le (D := 4096) (a := ((Sp.wy slon sc lon).1)) (b := ((Sp.wy slon sc lon).2)) (by decide)).2 (by omega))).1, (Sp.sl_told (p := Sp.fx 4096 ((Sp.wy slon sc lon).1)) (q := Sp.fx 4096 ((Sp.wy slon sc lon).2)) (Sp.fx_fit (D := 4096) (n := ((Sp.wy slon sc lon).1)) (by decide) (by decide) (by omega) (by omega)) (Sp.fx_fit (D := 4096) (n := ((Sp.wy slon sc lon).2)) (by decide) (by decide) (by omega) (by omega)) ((Sp.fx_le (D := 4096) (a := ((Sp.wy slon sc lon).1)) (b := ((Sp.wy slon sc lon).2)) (by decide)).2 (by omega))).2, (Sp.sl_told (p := Sp.fx 268435456 ((Sp.cs slat 5).1)) (q := Sp.fx 268435456 ((Sp.cs slat 5).2)) (Sp.fx_fit (D := 268435456) (n := ((Sp.cs slat 5).1)) (by decide) (by decide) (by omega) (by omega)) (Sp.fx_fit (D := 268435456) (n := ((Sp.cs slat 5).2)) (by decide) (by decide) (by omega) (by omega)) ((Sp.fx_le (D := 268435456) (a := ((Sp.cs slat 5).1)) (b := ((Sp.cs slat 5).2)) (by decide)).2 (by omega))).1, (Sp.sl_told (p := Sp.fx 268435456 ((Sp.cs slat 5).1)) (q := Sp.fx 268435456 ((Sp.cs slat 5).2)) (Sp.fx_fit (D := 268435456) (n := ((Sp.cs slat 5).1)) (by decide) (by decide) (by omega) (by omega)) (Sp.fx_fit (D := 268435456) (n := ((Sp.cs slat 5).2)) (by decide) (by decide) (by omega) (by omega)) ((Sp.fx_le (D := 268435456) (a := ((Sp.cs slat 5).1)) (b := ((Sp.cs slat 5).2)) (by decide)).2 (by omega))).2, ← (Sp.s4_yes (p := (Sp.fx 4096 ((Sp.wy slon sc lon).1)) * (Sp.fx 268435456 ((Sp.cs slat 5).1))) (q := (Sp.fx 4096 ((Sp.wy slon sc lon).1)) * (Sp.fx 268435456 ((Sp.cs slat 5).2))) (r := (Sp.fx 4096 ((Sp.wy slon sc lon).2)) * (Sp.fx 268435456 ((Sp.cs slat 5).1))) (s := (Sp.fx 4096 ((Sp.wy slon sc lon).2)) * (Sp.fx 268435456 ((Sp.cs slat 5).2))) (Sp.al4_yes (Sp.fxm_fit (D := 4096) (E := 268435456) (a := ((Sp.wy slon sc lon).1)) (c := ((Sp.cs slat 5).1)) (by decide) (by decide) (by omega) (by omega)) (Sp.fxm_fit (D := 4096) (E := 268435456) (a := ((Sp.wy slon sc lon).1)) (c := ((Sp.cs slat 5).2)) (by decide) (by decide) (by omega) (by omega)) (Sp.fxm_fit (D := 4096) (E := 268435456) (a := ((Sp.wy slon sc lon).2)) (c := ((Sp.cs slat 5).1)) (by decide) (by decide) (by omega) (by omega)) (Sp.fxm_fit (D := 4096) (E := 268435456) (a := ((Sp.wy slon sc lon).2)) (c := ((Sp.cs slat 5).2)) (by decide) (by decide) (by omega) (by omega)))).1, ← (Sp.s4_yes (p := (Sp.fx 4096 ((Sp.wy slon sc lon).1)) * (Sp.fx 268435456 ((Sp.cs slat 5).1))) (q := (Sp.fx 4096 ((Sp.wy slon sc lon).1)) * (Sp.fx 268435456 ((Sp.cs slat 5).2))) (r := (Sp.fx 4096 ((Sp.wy slon sc lon).2)) * (Sp.fx 268435456 ((Sp.cs slat 5).1))) (s := (Sp.fx 4096 ((Sp.wy slon sc lon).2)) * (Sp.fx 268435456 ((Sp.cs slat 5).2))) (Sp.al4_yes (Sp.fxm_fit (D := 4096) (E := 268435456) (a := ((Sp.wy slon sc lon).1)) (c := ((Sp.cs slat 5).1)) (by decide) (by decide) (by omega) (by omega)) (Sp.fxm_fit (D := 4096) (E := 268435456) (a := ((Sp.wy slon sc lon).1)) (c := ((Sp.cs slat 5).2)) (by decide) (by decide) (by omega) (by omega)) (Sp.fxm_fit (D := 4096) (E := 268435456) (a := ((Sp.wy slon sc lon).2)) (c := ((Sp.cs slat 5).1)) (by decide) (by decide) (by omega) (by omega)) (Sp.fxm_fit (D := 4096) (E := 268435456) (a := ((Sp.wy slon sc lon).2)) (c := ((Sp.cs slat 5).2)) (by decide) (by decide) (by omega) (by omega)))).2.1, ← (Sp.s4_yes (p := (Sp.fx 4096 ((Sp.wy slon sc lon).1)) * (Sp.fx 268435456 ((Sp.cs slat 5).1))) (q := (Sp.fx 4096 ((Sp.wy slon sc lon).1)) * (Sp.fx 268435456 ((Sp.cs slat 5).2))) (r := (Sp.fx 4096 ((Sp.wy slon sc lon).2)) * (Sp.fx 268435456 ((Sp.cs slat 5).1))) (s := (Sp.fx 4096 ((Sp.wy slon sc lon).2)) * (Sp.fx 268435456 ((Sp.cs slat 5).2))) (Sp.al4_yes (Sp.fxm_fit (D := 4096) (E := 268435456) (a := ((Sp.wy slon sc lon).1)) (c := ((Sp.cs slat 5).1)) (by decide) (by decide) (by omega) (by omega)) (Sp.fxm_fit (D := 4096) (E := 268435456) (a := ((Sp.wy slon sc lon).1)) (c := ((Sp.cs slat 5).2)) (by decide) (by decide) (by omega) (by omega)) (Sp.fxm_fit (D := 4096) (E := 268435456) (a := ((Sp.wy slon sc lon).2)) (c := ((Sp.cs slat 5).1)) (by decide) (by decide) (by omega) (by omega)) (Sp.fxm_fit (D := 4096) (E := 268435456) (a := ((Sp.wy slon sc lon).2)) (c := ((Sp.cs slat 5).2)) (by decide) (by decide) (by omega) (by omega)))).2.2.1, ← (Sp.s4_yes (p := (Sp.fx 4096 ((Sp.wy slon sc lon).1)) * (Sp.fx 268435456 ((Sp.cs slat 5).1))) (q := (Sp.fx 4096 ((Sp.wy slon sc lon).1)) * (Sp.fx 268435456 ((Sp.cs slat 5).2))) (r := (Sp.fx 4096 ((Sp.wy slon sc lon).2)) * (Sp.fx 268435456 ((Sp.cs slat 5).1))) (s := (Sp.fx 4096 ((Sp.wy slon sc lon).2)) * (Sp.fx 268435456 ((Sp.cs slat 5).2))) (Sp.al4_yes (Sp.fxm_fit (D := 4096) (E := 268435456) (a := ((Sp.wy slon sc lon).1)) (c := ((Sp.cs slat 5).1)) (by decide) (by decide) (by omega) (by omega)) (Sp.fxm_fit (D := 4096) (E := 268435456) (a := ((Sp.wy slon sc lon).1)) (c := ((Sp.cs slat 5).2)) (by decide) (by decide) (by omega) (by omega)) (Sp.fxm_fit (D := 4096) (E := 268435456) (a := ((Sp.wy slon sc lon).2)) (c := ((Sp.cs slat 5).1)) (by decide) (by decide) (by omega) (by omega)) (Sp.fxm_fit (D := 4096) (E := 268435456) (a := ((Sp.wy slon sc lon).2)) (c := ((Sp.cs slat 5).2)) (by decide) (by decide) (by omega) (by omega)))).2.2.2.1, ← (Sp.s4_yes (p := (Sp.fx 4096 ((Sp.wy slon sc lon).1)) * (Sp.fx 268435456 ((Sp.cs slat 5).1))) (q := (Sp.fx 4096 ((Sp.wy slon sc lon).1)) * (Sp.fx 268435456 ((Sp.cs slat 5).2))) (r := (Sp.fx 4096 ((Sp.wy slon sc lon).2)) * (Sp.fx 268435456 ((Sp.cs slat 5).1))) (s := (Sp.fx 4096 ((Sp.wy slon sc lon).2)) * (Sp.fx 268435456 ((Sp.cs slat 5).2))) (Sp.al4_yes (Sp.fxm_fit (D := 4096) (E := 268435456) (a := ((Sp.wy slon sc lon).1)) (c := ((Sp.cs slat 5).1)) (by decide) (by decide) (by omega) (by omega)) (Sp.fxm_fit (D := 4096) (E := 268435456) (a := ((Sp.wy slon sc lon).1)) (c := ((Sp.cs slat 5).2)) (by decide) (by decide) (by omega) (by omega)) (Sp.fxm_fit (D := 4096) (E := 268435456) (a := ((Sp.wy slon sc lon).2)) (c := ((Sp.cs slat 5).1)) (by decide) (by decide) (by omega) (by omega)) (Sp.fxm_fit (D := 4096) (E := 268435456) (a := ((Sp.wy slon sc lon).2)) (c := ((Sp.cs slat 5).2)) (by decide) (by decide) (by omega) (by omega)))).2.2.2.2] at h; exact h))) <|
    .a 6 6 <| .nil _ _) ?_
  refine aw_sq 254 255 ?_
  refine aw_p 509 (
    .a 2 7 <| .nil _ _) ?_
  refine aw_tr 1018 ?_
  refine aw_p1 (
    .a 1 7 <|
    .p (does_c ((by have h := (by have h := soutC_ok (Sp.qn (Sp.rmin (Sp.rmin (Sp.rmin ((Sp.fx 4096 ((Sp.wy slon sc lon).1)) * (Sp.fx 268435456 ((Sp.cs slat 5).1))) ((Sp.fx 4096 ((Sp.wy slon sc lon).1)) * (Sp.fx 268435456 ((Sp.cs slat 5).2)))) ((Sp.fx 4096 ((Sp.wy slon sc lon).2)) * (Sp.fx 268435456 ((Sp.cs slat 5).1)))) ((Sp.fx 4096 ((Sp.wy slon sc lon).2)) * (Sp.fx 268435456 ((Sp.cs slat 5).2))))) (Sp.qd (Sp.rmin (Sp.rmin (Sp.rmin ((Sp.fx 4096 ((Sp.wy slon sc lon).1)) * (Sp.fx 268435456 ((Sp.cs slat 5).1))) ((Sp.fx 4096 ((Sp.wy slon sc lon).1)) * (Sp.fx 268435456 ((Sp.cs slat 5).2)))) ((Sp.fx 4096 ((Sp.wy slon sc lon).2)) * (Sp.fx 268435456 ((Sp.cs slat 5).1)))) ((Sp.fx 4096 ((Sp.wy slon sc lon).2)) * (Sp.fx 268435456 ((Sp.cs slat 5).2))))) (by have := Sp.qn_bd (Sp.rmin (Sp.rmin (Sp.rmin ((Sp.fx 4096 ((Sp.wy slon sc lon).1)) * (Sp.fx 268435456 ((Sp.cs slat 5).1))) ((Sp.fx 4096 ((Sp.wy slon sc lon).1)) * (Sp.fx 268435456 ((Sp.cs slat 5).2)))) ((Sp.fx 4096 ((Sp.wy slon sc lon).2)) * (Sp.fx 268435456 ((Sp.cs slat 5).1)))) ((Sp.fx 4096 ((Sp.wy slon sc lon).2)) * (Sp.fx 268435456 ((Sp.cs slat 5).2)))); omega) (by have := Sp.qn_bd (Sp.rmin (Sp.rmin (Sp.rmin ((Sp.fx 4096 ((Sp.wy slon sc lon).1)) * (Sp.fx 268435456 ((Sp.cs slat 5).1))) ((Sp.fx 4096 ((Sp.wy slon sc lon).1)) * (Sp.fx 268435456 ((Sp.cs slat 5).2)))) ((Sp.fx 4096 ((Sp.wy slon sc lon).2)) * (Sp.fx 268435456 ((Sp.cs slat 5).1)))) ((Sp.fx 4096 ((Sp.wy slon sc lon).2)) * (Sp.fx 268435456 ((Sp.cs slat 5).2)))); omega) (by have := Sp.qd_bd (Sp.rmin (Sp.rmin (Sp.rmin ((Sp.fx 4096 ((Sp.wy slon sc lon).1)) * (Sp.fx 268435456 ((Sp.cs slat 5).1))) ((Sp.fx 4096 ((Sp.wy slon sc lon).1)) * (Sp.fx 268435456 ((Sp.cs slat 5).2)))) ((Sp.fx 4096 ((Sp.wy slon sc lon).2)) * (Sp.fx 268435456 ((Sp.cs slat 5).1)))) ((Sp.fx 4096 ((Sp.wy slon sc lon).2)) * (Sp.fx 268435456 ((Sp.cs slat 5).2)))); omega) (by have := Sp.qd_bd (Sp.rmin (Sp.rmin (Sp.rmin ((Sp.fx 4096 ((Sp.wy slon sc lon).1)) * (Sp.fx 268435456 ((Sp.cs slat 5).1))) ((Sp.fx 4096 ((Sp.wy slon sc lon).1)) * (Sp.fx 268435456 ((Sp.cs slat 5).2)))) ((Sp.fx 4096 ((Sp.wy slon sc lon).2)) * (Sp.fx 268435456 ((Sp.cs slat 5).1)))) ((Sp.fx 4096 ((Sp.wy slon sc lon).2)) * (Sp.fx 268435456 ((Sp.cs slat 5).2)))); omega) (Sp.qn (Sp.rmax (Sp.rmax (Sp.rmax ((Sp.fx 4096 ((Sp.wy slon sc lon).1)) * (Sp.fx 268435456 ((Sp.cs slat 5).1))) ((Sp.fx 4096 ((Sp.wy slon sc lon).1)) * (Sp.fx 268435456 ((Sp.cs slat 5).2)))) ((Sp.fx 4096 ((Sp.wy slon sc lon).2)) * (Sp.fx 268435456 ((Sp.cs slat 5).1)))) ((Sp.fx 4096 ((Sp.wy slon sc lon).2)) * (Sp.fx 268435456 ((Sp.cs slat 5).2))))) (Sp.qd (Sp.rmax (Sp.rmax (Sp.rmax ((Sp.fx 4096 ((Sp.wy slon sc lon).1)) * (Sp.fx 268435456 ((Sp.cs slat 5).1))) ((Sp.fx 4096 ((Sp.wy slon sc lon).1)) * (Sp.fx 268435456 ((Sp.cs slat 5).2)))) ((Sp.fx 4096 ((Sp.wy slon sc lon).2)) * (Sp.fx 268435456 ((Sp.cs slat 5).1)))) ((Sp.fx 4096 ((Sp.wy slon sc lon).2)) * (Sp.fx 268435456 ((Sp.cs slat 5).2))))) (by have := Sp.qn_bd (Sp.rmax (Sp.rmax (Sp.rmax ((Sp.fx 4096 ((Sp.wy slon sc lon).1)) * (Sp.fx 268435456 ((Sp.cs slat 5).1))) ((Sp.fx 4096 ((Sp.wy slon sc lon).1)) * (Sp.fx 268435456 ((Sp.cs slat 5).2)))) ((Sp.fx 4096 ((Sp.wy slon sc lon).2)) * (Sp.fx 268435456 ((Sp.cs slat 5).1)))) ((Sp.fx 4096 ((Sp.wy slon sc lon).2)) * (Sp.fx 268435456 ((Sp.cs slat 5).2)))); omega) (by have := Sp.qn_bd (Sp.rmax (Sp.rmax (Sp.rmax ((Sp.fx 4096 ((Sp.wy slon sc lon).1)) * (Sp.fx 268435456 ((Sp.cs slat 5).1))) ((Sp.fx 4096 ((Sp.wy slon sc lon).1)) * (Sp.fx 268435456 ((Sp.cs slat 5).2)))) ((Sp.fx 4096 ((Sp.wy slon sc lon).2)) * (Sp.fx 268435456 ((Sp.cs slat 5).1)))) ((Sp.fx 4096 ((Sp.wy slon sc lon).2)) * (Sp.fx 268435456 ((Sp.cs slat 5).2)))); omega) (by have := Sp.qd_bd (Sp.rmax (Sp.rmax (Sp.rmax ((Sp.fx 4096 ((Sp.wy slon sc lon).1)) * (Sp.fx 268435456 ((Sp.cs slat 5).1))) ((Sp.fx 4096 ((Sp.wy slon sc lon).1)) * (Sp.fx 268435456 ((Sp.cs slat 5).2)))) ((Sp.fx 4096 ((Sp.wy slon sc lon).2)) * (Sp.fx 268435456 ((Sp.cs slat 5).1)))) ((Sp.fx 4096 ((Sp.wy slon sc lon).2)) * (Sp.fx 268435456 ((Sp.cs slat 5).2)))); omega) (by have := Sp.qd_bd (Sp.rmax (Sp.rmax (Sp.rmax ((Sp.fx 4096 ((Sp.wy slon sc lon).1)) * (Sp.fx 268435456 ((Sp.cs slat 5).1))) ((Sp.fx 4096 ((Sp.wy slon sc lon).1)) * (Sp.fx 268435456 ((Sp.cs slat 5).2)))) ((Sp.fx 4096 ((Sp.wy slon sc lon).2)) * (Sp.fx 268435456 ((Sp.cs slat 5).1)))) ((Sp.fx 4096 ((Sp.wy slon sc lon).2)) * (Sp.fx 268435456 ((Sp.cs slat 5).2)))); omega) 65536 (by decide) (by decide) (by omega) (by omega) (show Sp.fitq ((Sp.sl (Sp.qn (Sp.rmin (Sp.rmin (Sp.rmin ((Sp.fx 4096 ((Sp.wy slon sc lon).1)) * (Sp.fx 268435456 ((Sp.cs slat 5).1))) ((Sp.fx 4096 ((Sp.wy slon sc lon).1)) * (Sp.fx 268435456 ((Sp.cs slat 5).2)))) ((Sp.fx 4096 ((Sp.wy slon sc lon).2)) * (Sp.fx 268435456 ((Sp.cs slat 5).1)))) ((Sp.fx 4096 ((Sp.wy slon sc lon).2)) * (Sp.fx 268435456 ((Sp.cs slat 5).2))))) (Sp.qd (Sp.rmin (Sp.rmin (Sp.rmin ((Sp.fx 4096 ((Sp.wy slon sc lon).1)) * (Sp.fx 268435456 ((Sp.cs slat 5).1))) ((Sp.fx 4096 ((Sp.wy slon sc lon).1)) * (Sp.fx 268435456 ((Sp.cs slat 5).2)))) ((Sp.fx 4096 ((Sp.wy slon sc lon).2)) * (Sp.fx 268435456 ((Sp.cs slat 5).1)))) ((Sp.fx 4096 ((Sp.wy slon sc lon).2)) * (Sp.fx 268435456 ((Sp.cs slat 5).2))))) (Sp.qn (Sp.rmax (Sp.rmax (Sp.rmax ((Sp.fx 4096 ((Sp.wy slon sc lon).1)) * (Sp.fx 268435456 ((Sp.cs slat 5).1))) ((Sp.fx 4096 ((Sp.wy slon sc lon).1)) * (Sp.fx 268435456 ((Sp.cs slat 5).2)))) ((Sp.fx 4096 ((Sp.wy slon sc lon).2)) * (Sp.fx 268435456 ((Sp.cs slat 5).1)))) ((Sp.fx 4096 ((Sp.wy slon sc lon).2)) * (Sp.fx 268435456 ((Sp.cs slat 5).2))))) (Sp.qd (Sp.rmax (Sp.rmax (Sp.rmax ((Sp.fx 4096 ((Sp.wy slon sc lon).1)) * (Sp.fx 268435456 ((Sp.cs slat 5).1))) ((Sp.fx 4096 ((Sp.wy slon sc lon).1)) * (Sp.fx 268435456 ((Sp.cs slat 5).2)))) ((Sp.fx 4096 ((Sp.wy slon sc lon).2)) * (Sp.fx 268435456 ((Sp.cs slat 5).1)))) ((Sp.fx 4096 ((Sp.wy slon sc lon).2)) * (Sp.fx 268435456 ((Sp.cs slat 5).2)))))) * ((65536 : Int) : Rat)) = true from (by rw [(Sp.sl_told (p := Sp.rmin (Sp.rmin (Sp.rmin ((Sp.fx 4096 ((Sp.wy slon sc lon).1)) * (Sp.fx 268435456 ((Sp.cs slat 5).1))) ((Sp.fx 4096 ((Sp.wy slon sc lon).1)) * (Sp.fx 268435456 ((Sp.cs slat 5).2)))) ((Sp.fx 4096 ((Sp.wy slon sc lon).2)) * (Sp.fx 268435456 ((Sp.cs slat 5).1)))) ((Sp.fx 4096 ((Sp.wy slon sc lon).2)) * (Sp.fx 268435456 ((Sp.cs slat 5).2)))) (q := Sp.rmax (Sp.rmax (Sp.rmax ((Sp.fx 4096 ((Sp.wy slon sc lon).1)) * (Sp.fx 268435456 ((Sp.cs slat 5).1))) ((Sp.fx 4096 ((Sp.wy slon sc lon).1)) * (Sp.fx 268435456 ((Sp.cs slat 5).2)))) ((Sp.fx 4096 ((Sp.wy slon sc lon).2)) * (Sp.fx 268435456 ((Sp.cs slat 5).1)))) ((Sp.fx 4096 ((Sp.wy slon sc lon).2)) * (Sp.fx 268435456 ((Sp.cs slat 5).2)))) (Sp.fitq_min (Sp.fitq_min (Sp.fitq_min (Sp.fxm_fit (D := 4096) (E := 268435456) (a := ((Sp.wy slon sc lon).1)) (c := ((Sp.cs slat 5).1)) (by decide) (by decide) (by omega) (by omega)) (Sp.fxm_fit (D := 4096) (E := 268435456) (a := ((Sp.wy slon sc lon).1)) (c := ((Sp.cs slat 5).2)) (by decide) (by decide) (by omega) (by omega))) (Sp.fxm_fit (D := 4096) (E := 268435456) (a := ((Sp.wy slon sc lon).2)) (c := ((Sp.cs slat 5).1)) (by decide) (by decide) (by omega) (by omega))) (Sp.fxm_fit (D := 4096) (E := 268435456) (a := ((Sp.wy slon sc lon).2)) (c := ((Sp.cs slat 5).2)) (by decide) (by decide) (by omega) (by omega))) (Sp.fitq_max (Sp.fitq_max (Sp.fitq_max (Sp.fxm_fit (D := 4096) (E := 268435456) (a := ((Sp.wy slon sc lon).1)) (c := ((Sp.cs slat 5).1)) (by decide) (by decide) (by omega) (by omega)) (Sp.fxm_fit (D := 4096) (E := 268435456) (a := ((Sp.wy slon sc lon).1)) (c := ((Sp.cs slat 5).2)) (by decide) (by decide) (by omega) (by omega))) (Sp.fxm_fit (D := 4096) (E := 268435456) (a := ((Sp.wy slon sc lon).2)) (c := ((Sp.cs slat 5).1)) (by decide) (by decide) (by omega) (by omega))) (Sp.fxm_fit (D := 4096) (E := 268435456) (a := ((Sp.wy slon sc lon).2)) (c := ((Sp.cs slat 5).2)) (by decide) (by decide) (by omega) (by omega))) (Sp.m4_le_x4 _ _ _ _)).1]; exact of.1)) (show Sp.fitq ((-(Sp.sh (Sp.qn (Sp.rmin (Sp.rmin (Sp.rmin ((Sp.fx 4096 ((Sp.wy slon sc lon).1)) * (Sp.fx 268435456 ((Sp.cs slat 5).1))) ((Sp.fx 4096 ((Sp.wy slon sc lon).1)) * (Sp.fx 268435456 ((Sp.cs slat 5).2)))) ((Sp.fx 4096 ((Sp.wy slon sc lon).2)) * (Sp.fx 268435456 ((Sp.cs slat 5).1)))) ((Sp.fx 4096 ((Sp.wy slon sc lon).2)) * (Sp.fx 268435456 ((Sp.cs slat 5).2))))) (Sp.qd (Sp.rmin (Sp.rmin (Sp.rmin ((Sp.fx 4096 ((Sp.wy slon sc lon).1)) * (Sp.fx 268435456 ((Sp.cs slat 5).1))) ((Sp.fx 4096 ((Sp.wy slon sc lon).1)) * (Sp.fx 268435456 ((Sp.cs slat 5).2)))) ((Sp.fx 4096 ((Sp.wy slon sc lon).2)) * (Sp.fx 268435456 ((Sp.cs slat 5).1)))) ((Sp.fx 4096 ((Sp.wy slon sc lon).2)) * (Sp.fx 268435456 ((Sp.cs slat 5).2))))) (Sp.qn (Sp.rmax (Sp.rmax (Sp.rmax ((Sp.fx 4096 ((Sp.wy slon sc lon).1)) * (Sp.fx 268435456 ((Sp.cs slat 5).1))) ((Sp.fx 4096 ((Sp.wy slon sc lon).1)) * (Sp.fx 268435456 ((Sp.cs slat 5).2)))) ((Sp.fx 4096 ((Sp.wy slon sc lon).2)) * (Sp.fx 268435456 ((Sp.cs slat 5).1)))) ((Sp.fx 4096 ((Sp.wy slon sc lon).2)) * (Sp.fx 268435456 ((Sp.cs slat 5).2))))) (Sp.qd (Sp.rmax (Sp.rmax (Sp.rmax ((Sp.fx 4096 ((Sp.wy slon sc lon).1)) * (Sp.fx 268435456 ((Sp.cs slat 5).1))) ((Sp.fx 4096 ((Sp.wy slon sc lon).1)) * (Sp.fx 268435456 ((Sp.cs slat 5).2)))) ((Sp.fx 4096 ((Sp.wy slon sc lon).2)) * (Sp.fx 268435456 ((Sp.cs slat 5).1)))) ((Sp.fx 4096 ((Sp.wy slon sc lon).2)) * (Sp.fx 268435456 ((Sp.cs slat 5).2))))))) * ((65536 : Int) : Rat)) = true from (by rw [(Sp.sl_told (p := Sp.rmin (Sp.rmin (Sp.rmin ((Sp.fx 4096 ((Sp.wy slon sc lon).1)) * (Sp.fx 268435456 ((Sp.cs slat 5).1))) ((Sp.fx 4096 ((Sp.wy slon sc lon).1)) * (Sp.fx 268435456 ((Sp.cs slat 5).2)))) ((Sp.fx 4096 ((Sp.wy slon sc lon).2)) * (Sp.fx 268435456 ((Sp.cs slat 5).1)))) ((Sp.fx 4096 ((Sp.wy slon sc lon).2)) * (Sp.fx 268435456 ((Sp.cs slat 5).2)))) (q := Sp.rmax (Sp.rmax (Sp.rmax ((Sp.fx 4096 ((Sp.wy slon sc lon).1)) * (Sp.fx 268435456 ((Sp.cs slat 5).1))) ((Sp.fx 4096 ((Sp.wy slon sc lon).1)) * (Sp.fx 268435456 ((Sp.cs slat 5).2)))) ((Sp.fx 4096 ((Sp.wy slon sc lon).2)) * (Sp.fx 268435456 ((Sp.cs slat 5).1)))) ((Sp.fx 4096 ((Sp.wy slon sc lon).2)) * (Sp.fx 268435456 ((Sp.cs slat 5).2)))) (Sp.fitq_min (Sp.fitq_min (Sp.fitq_min (Sp.fxm_fit (D := 4096) (E := 268435456) (a := ((Sp.wy slon sc lon).1)) (c := ((Sp.cs slat 5).1)) (by decide) (by decide) (by omega) (by omega)) (Sp.fxm_fit (D := 4096) (E := 268435456) (a := ((Sp.wy slon sc lon).1)) (c := ((Sp.cs slat 5).2)) (by decide) (by decide) (by omega) (by omega))) (Sp.fxm_fit (D := 4096) (E := 268435456) (a := ((Sp.wy slon sc lon).2)) (c := ((Sp.cs slat 5).1)) (by decide) (by decide) (by omega) (by omega))) (Sp.fxm_fit (D := 4096) (E := 268435456) (a := ((Sp.wy slon sc lon).2)) (c := ((Sp.cs slat 5).2)) (by decide) (by decide) (by omega) (by omega))) (Sp.fitq_max (Sp.fitq_max (Sp.fitq_max (Sp.fxm_fit (D := 4096) (E := 268435456) (a := ((Sp.wy slon sc lon).1)) (c := ((Sp.cs slat 5).1)) (by decide) (by decide) (by omega) (by omega)) (Sp.fxm_fit (D := 4096) (E := 268435456) (a := ((Sp.wy slon sc lon).1)) (c := ((Sp.cs slat 5).2)) (by decide) (by decide) (by omega) (by omega))) (Sp.fxm_fit (D := 4096) (E := 268435456) (a := ((Sp.wy slon sc lon).2)) (c := ((Sp.cs slat 5).1)) (by decide) (by decide) (by omega) (by omega))) (Sp.fxm_fit (D := 4096) (E := 268435456) (a := ((Sp.wy slon sc lon).2)) (c := ((Sp.cs slat 5).2)) (by decide) (by decide) (by omega) (by omega))) (Sp.m4_le_x4 _ _ _ _)).2]; exact of.2)); rw [(Sp.sl_told (p := Sp.rmin (Sp.rmin (Sp.rmin ((Sp.fx 4096 ((Sp.wy slon sc lon).1)) * (Sp.fx 268435456 ((Sp.cs slat 5).1))) ((Sp.fx 4096 ((Sp.wy slon sc lon).1)) * (Sp.fx 268435456 ((Sp.cs slat 5).2)))) ((Sp.fx 4096 ((Sp.wy slon sc lon).2)) * (Sp.fx 268435456 ((Sp.cs slat 5).1)))) ((Sp.fx 4096 ((Sp.wy slon sc lon).2)) * (Sp.fx 268435456 ((Sp.cs slat 5).2)))) (q := Sp.rmax (Sp.rmax (Sp.rmax ((Sp.fx 4096 ((Sp.wy slon sc lon).1)) * (Sp.fx 268435456 ((Sp.cs slat 5).1))) ((Sp.fx 4096 ((Sp.wy slon sc lon).1)) * (Sp.fx 268435456 ((Sp.cs slat 5).2)))) ((Sp.fx 4096 ((Sp.wy slon sc lon).2)) * (Sp.fx 268435456 ((Sp.cs slat 5).1)))) ((Sp.fx 4096 ((Sp.wy slon sc lon).2)) * (Sp.fx 268435456 ((Sp.cs slat 5).2)))) (Sp.fitq_min (Sp.fitq_min (Sp.fitq_min (Sp.fxm_fit (D := 4096) (E := 268435456) (a := ((Sp.wy slon sc lon).1)) (c := ((Sp.cs slat 5).1)) (by decide) (by decide) (by omega) (by omega)) (Sp.fxm_fit (D := 4096) (E := 268435456) (a := ((Sp.wy slon sc lon).1)) (c := ((Sp.cs slat 5).2)) (by decide) (by decide) (by omega) (by omega))) (Sp.fxm_fit (D := 4096) (E := 268435456) (a := ((Sp.wy slon sc lon).2)) (c := ((Sp.cs slat 5).1)) (by decide) (by decide) (by omega) (by omega))) (Sp.fxm_fit (D := 4096) (E := 268435456) (a := ((Sp.wy slon sc lon).2)) (c := ((Sp.cs slat 5).2)) (by decide) (by decide) (by omega) (by omega))) (Sp.fitq_max (Sp.fitq_max (Sp.fitq_max (Sp.fxm_fit (D := 4096) (E := 268435456) (a := ((Sp.wy slon sc lon).1)) (c := ((Sp.cs slat 5).1)) (by decide) (by decide) (by omega) (by omega)) (Sp.fxm_fit (D := 4096) (E := 268435456) (a := ((Sp.wy slon sc lon).1)) (c := ((Sp.cs slat 5).2)) (by decide) (by decide) (by omega) (by omega))) (Sp.fxm_fit (D := 4096) (E := 268435456) (a := ((Sp.wy slon sc lon).2)) (c := ((Sp.cs slat 5).1)) (by decide) (by decide) (by omega) (by omega))) (Sp.fxm_fit (D := 4096) (E := 268435456) (a := ((Sp.wy slon sc lon).2)) (c := ((Sp.cs slat 5).2)) (by decide) (by decide) (by omega) (by omega))) (Sp.m4_le_x4 _ _ _ _)).1, (Sp.sl_told (p := Sp.rmin (Sp.rmin (Sp.rmin ((Sp.fx 4096 ((Sp.wy slon sc lon).1)) * (Sp.fx 268435456 ((Sp.cs slat 5).1))) ((Sp.fx 4096 ((Sp.wy slon sc lon).1)) * (Sp.fx 268435456 ((Sp.cs slat 5).2)))) ((Sp.fx 4096 ((Sp.wy slon sc lon).2)) * (Sp.fx 268435456 ((Sp.cs slat 5).1)))) ((Sp.fx 4096 ((Sp.wy slon sc lon).2)) * (Sp.fx 268435456 ((Sp.cs slat 5).2)))) (q := Sp.rmax (Sp.rmax (Sp.rmax ((Sp.fx 4096 ((Sp.wy slon sc lon).1)) * (Sp.fx 268435456 ((Sp.cs slat 5).1))) ((Sp.fx 4096 ((Sp.wy slon sc lon).1)) * (Sp.fx 268435456 ((Sp.cs slat 5).2)))) ((Sp.fx 4096 ((Sp.wy slon sc lon).2)) * (Sp.fx 268435456 ((Sp.cs slat 5).1)))) ((Sp.fx 4096 ((Sp.wy slon sc lon).2)) * (Sp.fx 268435456 ((Sp.cs slat 5).2)))) (Sp.fitq_min (Sp.fitq_min (Sp.fitq_min (Sp.fxm_fit (D := 4096) (E := 268435456) (a := ((Sp.wy slon sc lon).1)) (c := ((Sp.cs slat 5).1)) (by decide) (by decide) (by omega) (by omega)) (Sp.fxm_fit (D := 4096) (E := 268435456) (a := ((Sp.wy slon sc lon).1)) (c := ((Sp.cs slat 5).2)) (by decide) (by decide) (by omega) (by omega))) (Sp.fxm_fit (D := 4096) (E := 268435456) (a := ((Sp.wy slon sc lon).2)) (c := ((Sp.cs slat 5).1)) (by decide) (by decide) (by omega) (by omega))) (Sp.fxm_fit (D := 4096) (E := 268435456) (a := ((Sp.wy slon sc lon).2)) (c := ((Sp.cs slat 5).2)) (by decide) (by decide) (by omega) (by omega))) (Sp.fitq_max (Sp.fitq_max (Sp.fitq_max (Sp.fxm_fit (D := 4096) (E := 268435456) (a := ((Sp.wy slon sc lon).1)) (c := ((Sp.cs slat 5).1)) (by decide) (by decide) (by omega) (by omega)) (Sp.fxm_fit (D := 4096) (E := 268435456) (a := ((Sp.wy slon sc lon).1)) (c := ((Sp.cs slat 5).2)) (by decide) (by decide) (by omega) (by omega))) (Sp.fxm_fit (D := 4096) (E := 268435456) (a := ((Sp.wy slon sc lon).2)) (c := ((Sp.cs slat 5).1)) (by decide) (by decide) (by omega) (by omega))) (Sp.fxm_fit (D := 4096) (E := 268435456) (a := ((Sp.wy slon sc lon).2)) (c := ((Sp.cs slat 5).2)) (by decide) (by decide) (by omega) (by omega))) (Sp.m4_le_x4 _ _ _ _)).2, (Sp.dv_yes (a := ((Rat.floor ((Sp.rmin (Sp.rmin (Sp.rmin ((Sp.fx 4096 ((Sp.wy slon sc lon).1)) * (Sp.fx 268435456 ((Sp.cs slat 5).1))) ((Sp.fx 4096 ((Sp.wy slon sc lon).1)) * (Sp.fx 268435456 ((Sp.cs slat 5).2)))) ((Sp.fx 4096 ((Sp.wy slon sc lon).2)) * (Sp.fx 268435456 ((Sp.cs slat 5).1)))) ((Sp.fx 4096 ((Sp.wy slon sc lon).2)) * (Sp.fx 268435456 ((Sp.cs slat 5).2)))) * ((65536 : Int) : Rat)) : Int) : Rat)) (Sp.cast_ne1 (n := 65536) (by omega))).1, (Sp.dv_yes (a := ((Rat.floor ((Sp.rmin (Sp.rmin (Sp.rmin ((Sp.fx 4096 ((Sp.wy slon sc lon).1)) * (Sp.fx 268435456 ((Sp.cs slat 5).1))) ((Sp.fx 4096 ((Sp.wy slon sc lon).1)) * (Sp.fx 268435456 ((Sp.cs slat 5).2)))) ((Sp.fx 4096 ((Sp.wy slon sc lon).2)) * (Sp.fx 268435456 ((Sp.cs slat 5).1)))) ((Sp.fx 4096 ((Sp.wy slon sc lon).2)) * (Sp.fx 268435456 ((Sp.cs slat 5).2)))) * ((65536 : Int) : Rat)) : Int) : Rat)) (Sp.cast_ne1 (n := 65536) (by omega))).2.1, (Sp.dv_yes (a := ((-Rat.floor ((-(Sp.rmax (Sp.rmax (Sp.rmax ((Sp.fx 4096 ((Sp.wy slon sc lon).1)) * (Sp.fx 268435456 ((Sp.cs slat 5).1))) ((Sp.fx 4096 ((Sp.wy slon sc lon).1)) * (Sp.fx 268435456 ((Sp.cs slat 5).2)))) ((Sp.fx 4096 ((Sp.wy slon sc lon).2)) * (Sp.fx 268435456 ((Sp.cs slat 5).1)))) ((Sp.fx 4096 ((Sp.wy slon sc lon).2)) * (Sp.fx 268435456 ((Sp.cs slat 5).2))))) * ((65536 : Int) : Rat)) : Int) : Rat)) (Sp.cast_ne1 (n := 65536) (by omega))).1, (Sp.dv_yes (a := ((-Rat.floor ((-(Sp.rmax (Sp.rmax (Sp.rmax ((Sp.fx 4096 ((Sp.wy slon sc lon).1)) * (Sp.fx 268435456 ((Sp.cs slat 5).1))) ((Sp.fx 4096 ((Sp.wy slon sc lon).1)) * (Sp.fx 268435456 ((Sp.cs slat 5).2)))) ((Sp.fx 4096 ((Sp.wy slon sc lon).2)) * (Sp.fx 268435456 ((Sp.cs slat 5).1)))) ((Sp.fx 4096 ((Sp.wy slon sc lon).2)) * (Sp.fx 268435456 ((Sp.cs slat 5).2))))) * ((65536 : Int) : Rat)) : Int) : Rat)) (Sp.cast_ne1 (n := 65536) (by omega))).2.1] at h; exact h); rw [ox.1, ox.2] at h; exact h))) <|
    .a 5 7 <| .nil _ _) ?_
  refine then_normal ?_
  refine aw_sq 510 511 ?_
  refine aw_p 1021 (
    .a 2 7 <| .nil _ _) ?_
  refine aw_fl 2043 ?_
  refine aw_sk ?_
  refine then_normal ?_
  refine aw_d 1023 (
    .a 4 7 <| .p (does_i (lat - slat) (wrap_i64 (by omega) (by omega)) .i64) <| .a 2 7 <| .p (does_i ((lat - slat) * sc) (wrap_i64 (by omega) (by omega)) .i64) <| .p (does_c (pof_ok ((lat - slat) * sc) 1000000 (by omega) (by omega) (by decide) (by decide))) <| .a 3 7 <| .nil _ _) ?_
  refine aw_rt ?_
  exact en_ret [.agg #[.int .i64 (Sp.qn (Sp.fx 65536 ((Sp.acr slat slon sc lon).1))), .int .i64 (Sp.qd (Sp.fx 65536 ((Sp.acr slat slon sc lon).1))), .int .i64 (Sp.qn (Sp.fx 65536 ((Sp.acr slat slon sc lon).2))), .int .i64 (Sp.qd (Sp.fx 65536 ((Sp.acr slat slon sc lon).2)))], .agg #[.int .i64 (Sp.qn (Sp.fx 1000000 ((lat - slat) * sc))), .int .i64 (Sp.qd (Sp.fx 1000000 ((lat - slat) * sc))), .int .i64 (Sp.qn (Sp.fx 1000000 ((lat - slat) * sc))), .int .i64 (Sp.qd (Sp.fx 1000000 ((lat - slat) * sc)))], .int .i64 0] (by kernel_rfl)

theorem middle_ok (D a b : Int) (d0 : 0 < D) (d1 : D ≤ 1099511627776) (a0 : -1000000000000000 ≤ a) (a1 : a ≤ 1000000000000000) (b0 : -1000000000000000 ≤ b) (b1 : b ≤ 1000000000000000) :
    AC Tryz.prog 22 0 ([.agg #[.int .i64 (Sp.qn (Sp.fx D a)), .int .i64 (Sp.qd (Sp.fx D a)), .int .i64 (Sp.qn (Sp.fx D b)), .int .i64 (Sp.qd (Sp.fx D b))]]) [] (.int .i64 ((a + b + D) / (2 * D))) [] := by
  refine ac_in Tryz.func22 (fun w0 W pin => ?_)
  refine aw_p 3 (
    .a 2 1 <| .nil _ _) ?_
  refine aw_p 7 (
    .a 4 2 <|
    .p (does_c ((by have h := (by have h := fadd_ok (Sp.qn (Sp.fx D a)) (Sp.qd (Sp.fx D a)) (by have := Sp.qn_bd (Sp.fx D a); omega) (by have := Sp.qn_bd (Sp.fx D a); omega) (by have := Sp.qd_bd (Sp.fx D a); omega) (by have := Sp.qd_bd (Sp.fx D a); omega) (Sp.qn (Sp.fx D b)) (Sp.qd (Sp.fx D b)) (by have := Sp.qn_bd (Sp.fx D b); omega) (by have := Sp.qn_bd (Sp.fx D b); omega) (by have := Sp.qd_bd (Sp.fx D b); omega) (by have := Sp.qd_bd (Sp.fx D b); omega); rw [(Sp.rv_fit (q := (Sp.fx D a)) (Sp.fx_fit (D := D) (n := a) (by omega) (by omega) (by omega) (by omega))), (Sp.rv_fit (q := (Sp.fx D b)) (Sp.fx_fit (D := D) (n := b) (by omega) (by omega) (by omega) (by omega)))] at h; exact h); rw [Sp.qe_fit (q := ((Sp.fx D a) + (Sp.fx D b))) (by rw [Sp.fx_add]; exact (Sp.fx_fit (D := D) (n := (a + b)) (by omega) (by omega) (by omega) (by omega))), Sp.fx_add D a b] at h; exact h))) <|
    .a 6 2 <| .nil _ _) ?_
  refine aw_p 15 (
    .p (does_c ((by have h := fmake_ok 1 (2) (by decide) (by decide) (by decide) (by decide); rw [(Sp.dv_yes (a := ((1 : Int) : Rat)) (b := ((2 : Int) : Rat)) (Sp.ne_rat (d := 2) (by decide))).1, (Sp.dv_yes (a := ((1 : Int) : Rat)) (b := ((2 : Int) : Rat)) (Sp.ne_rat (d := 2) (by decide))).2.1, (Sp.dv_yes (a := ((1 : Int) : Rat)) (b := ((2 : Int) : Rat)) (Sp.ne_rat (d := 2) (by decide))).2.2, Sp.qe_fit (q := ((1 : Int) : Rat) / ((2 : Int) : Rat)) (Sp.fx_fit (D := 2) (n := 1) (by decide) (by decide) (by decide) (by decide))] at h; exact h))) <|
    .a 6 3 <| .nil _ _) ?_
  refine aw_p 31 (
    .a 2 4 <|
    .p (does_c ((by have h := (by have h := fmul_ok (Sp.qn (Sp.fx D (a + b))) (Sp.qd (Sp.fx D (a + b))) (by have := Sp.qn_bd (Sp.fx D (a + b)); omega) (by have := Sp.qn_bd (Sp.fx D (a + b)); omega) (by have := Sp.qd_bd (Sp.fx D (a + b)); omega) (by have := Sp.qd_bd (Sp.fx D (a + b)); omega) (Sp.qn (Sp.fx 2 1)) (Sp.qd (Sp.fx 2 1)) (by decide +kernel) (by decide +kernel) (by decide +kernel) (by decide +kernel); rw [(Sp.rv_fit (q := (Sp.fx D (a + b))) (Sp.fx_fit (D := D) (n := (a + b)) (by omega) (by omega) (by omega) (by omega))), (Sp.rv_fit (q := (Sp.fx 2 1)) (Sp.fx_fit (D := 2) (n := 1) (by decide) (by decide) (by decide) (by decide)))] at h; exact h); rw [Sp.qe_fit (q := ((Sp.fx D (a + b)) * (Sp.fx 2 1))) (Sp.fxm_fit (D := D) (E := 2) (a := (a + b)) (c := 1) (by omega) (by omega) (by omega) (by omega)), Sp.fx_mul D 2 (a + b) 1] at h; exact h))) <|
    .a 6 4 <| .nil _ _) ?_
  refine aw_p 63 (
    .a 1 5 <|
    .p (does_c ((by have h := fround_ok (Sp.qn (Sp.fx (D * 2) ((a + b) * 1))) (Sp.qd (Sp.fx (D * 2) ((a + b) * 1))) (by have := Sp.qn_bd (Sp.fx (D * 2) ((a + b) * 1)); omega) (by have := Sp.qn_bd (Sp.fx (D * 2) ((a + b) * 1)); omega) (by have := Sp.qd_bd (Sp.fx (D * 2) ((a + b) * 1)); omega) (by have := Sp.qd_bd (Sp.fx (D * 2) ((a + b) * 1)); omega); rw [(Sp.rv_fit (q := (Sp.fx (D * 2) ((a + b) * 1))) (Sp.fx_fit (by omega) (by omega) (by omega) (by omega)))] at h; exact h))) <|
    .a 1 5 <| .nil _ _) ?_
  refine aw_rt ?_
  exact en_ret [.int .i64 (Sp.rnd (Sp.fx (D * 2) ((a + b) * 1)))] (show (.int .i64 (Sp.rnd (Sp.fx (D * 2) ((a + b) * 1))) : Value) = (.int .i64 ((a + b + D) / (2 * D))) from (congrArg (Value.int .i64) (show (Sp.rnd (Sp.fx (D * 2) ((a + b) * 1))) = ((a + b + D) / (2 * D)) from by exact Sp.mid_fx d0)))

theorem point_no (slat slon sc lat lon : Int) (h : slat < -80000000 ∨ 80000000 < slat ∨ slon < -180000000 ∨ 180000000 < slon ∨ sc < 1 ∨ 10000 < sc ∨ lat < -80000000 ∨ 80000000 < lat ∨ lon < -180000000 ∨ 180000000 < lon) :
    AC Tryz.prog 6 0 ([.agg #[.int .i64 slat, .int .i64 slon, .int .i64 sc], .int .i64 lat, .int .i64 lon]) [] (.tuple #[.agg #[.int .i64 0, .int .i64 0], .int .i64 1]) [] := by
  refine ac_in Tryz.func6 (fun w0 W pin => ?_)
  refine aw_p 3 (
    .a 3 1 <| .nil _ _) ?_
  refine aw_p 7 (
    .a 3 3 <| .p (does_c (to_no slat slon sc lat lon h)) <| .a 9 3 <| .nil _ _) ?_
  refine aw_sq 14 15 ?_
  refine aw_p 29 (
    .a 2 5 <| .nil _ _) ?_
  refine aw_tr 58 ?_
  refine aw_p 117 (
    .a 4 5 <| .nil _ _) ?_
  refine aw_rt ?_
  refine then_ret ?_
  exact en_ret [.agg #[.int .i64 0, .int .i64 0], .int .i64 1] (by kernel_rfl)

theorem point_far (slat slon sc lat lon : Int) (s0 : -80000000 ≤ slat) (s1 : slat ≤ 80000000) (s2 : -180000000 ≤ slon) (s3 : slon ≤ 180000000) (s4 : 1 ≤ sc) (s5 : sc ≤ 10000) (t0 : -80000000 ≤ lat) (t1 : lat ≤ 80000000) (t2 : -180000000 ≤ lon) (t3 : lon ≤ 180000000) (h : (((Sp.ptx slat slon sc lon) == (Sp.lim 1048576 (Sp.ptx slat slon sc lon))) && (((Sp.pty slat sc lat) == (Sp.lim 1048576 (Sp.pty slat sc lat))) && true)) = false) :
    AC Tryz.prog 6 0 ([.agg #[.int .i64 slat, .int .i64 slon, .int .i64 sc], .int .i64 lat, .int .i64 lon]) [] (.tuple #[.agg #[.int .i64 0, .int .i64 0], .int .i64 17]) [] := by
  have ab := Sp.acr_bd s0 s1 s2 s3 t2 t3 s4 s5; have vb := Sp.v_bd s0 s1 t0 t1 s4 s5
  refine ac_in Tryz.func6 (fun w0 W pin => ?_)
  refine aw_p 3 (
    .a 3 1 <| .nil _ _) ?_
  refine aw_p 7 (
    .a 3 3 <| .p (does_c (to_ok slat slon sc lat lon (by omega) (by omega) (by omega) (by omega) (by omega) (by omega) (by omega) (by omega) (by omega) (by omega))) <| .a 9 3 <| .nil _ _) ?_
  refine aw_sq 14 15 ?_
  refine aw_p 29 (
    .a 2 5 <| .nil _ _) ?_
  refine aw_fl 59 ?_
  refine aw_sk ?_
  refine then_normal ?_
  refine aw_d 31 (
    .a 1 5 <| .p (does_c (middle_ok 65536 ((Sp.acr slat slon sc lon).1) ((Sp.acr slat slon sc lon).2) (by decide) (by decide) (by omega) (by omega) (by omega) (by omega))) <| .a 1 5 <|
    .p (does_c (middle_ok 1000000 ((lat - slat) * sc) ((lat - slat) * sc) (by decide) (by decide) (by omega) (by omega) (by omega) (by omega))) <| .a 3 5 <| .nil _ _) ?_
  refine aw_sq 62 63 ?_
  refine aw_p 125 (
    .a 1 6 <| .p (does_c ((by have q := pok_ok (Sp.ptx slat slon sc lon) (Sp.pty slat sc lat); rw [h] at q; exact q))) <| .a 1 6 <| .nil _ _) ?_
  refine aw_tr 250 ?_
  refine aw_p 501 (
    .a 3 6 <| .nil _ _) ?_
  refine aw_rt ?_
  refine then_ret ?_
  exact en_ret [.agg #[.int .i64 0, .int .i64 0], .int .i64 17] (by kernel_rfl)

theorem point_ok (slat slon sc lat lon : Int) (s0 : -80000000 ≤ slat) (s1 : slat ≤ 80000000) (s2 : -180000000 ≤ slon) (s3 : slon ≤ 180000000) (s4 : 1 ≤ sc) (s5 : sc ≤ 10000) (t0 : -80000000 ≤ lat) (t1 : lat ≤ 80000000) (t2 : -180000000 ≤ lon) (t3 : lon ≤ 180000000) (h : (((Sp.ptx slat slon sc lon) == (Sp.lim 1048576 (Sp.ptx slat slon sc lon))) && (((Sp.pty slat sc lat) == (Sp.lim 1048576 (Sp.pty slat sc lat))) && true)) = true) :
    AC Tryz.prog 6 0 ([.agg #[.int .i64 slat, .int .i64 slon, .int .i64 sc], .int .i64 lat, .int .i64 lon]) [] (.tuple #[.agg #[.int .i64 (Sp.ptx slat slon sc lon), .int .i64 (Sp.pty slat sc lat)], .int .i64 0]) [] := by
  have ab := Sp.acr_bd s0 s1 s2 s3 t2 t3 s4 s5; have vb := Sp.v_bd s0 s1 t0 t1 s4 s5
  refine ac_in Tryz.func6 (fun w0 W pin => ?_)
  refine aw_p 3 (
    .a 3 1 <| .nil _ _) ?_
  refine aw_p 7 (
    .a 3 3 <| .p (does_c (to_ok slat slon sc lat lon (by omega) (by omega) (by omega) (by omega) (by omega) (by omega) (by omega) (by omega) (by omega) (by omega))) <| .a 9 3 <| .nil _ _) ?_
  refine aw_sq 14 15 ?_
  refine aw_p 29 (
    .a 2 5 <| .nil _ _) ?_
  refine aw_fl 59 ?_
  refine aw_sk ?_
  refine then_normal ?_
  refine aw_d 31 (
    .a 1 5 <| .p (does_c (middle_ok 65536 ((Sp.acr slat slon sc lon).1) ((Sp.acr slat slon sc lon).2) (by decide) (by decide) (by omega) (by omega) (by omega) (by omega))) <| .a 1 5 <|
    .p (does_c (middle_ok 1000000 ((lat - slat) * sc) ((lat - slat) * sc) (by decide) (by decide) (by omega) (by omega) (by omega) (by omega))) <| .a 3 5 <| .nil _ _) ?_
  refine aw_sq 62 63 ?_
  refine aw_p 125 (
    .a 1 6 <| .p (does_c ((by have q := pok_ok (Sp.ptx slat slon sc lon) (Sp.pty slat sc lat); rw [h] at q; exact q))) <| .a 1 6 <| .nil _ _) ?_
  refine aw_fl 251 ?_
  refine aw_sk ?_
  refine then_normal ?_
  refine aw_p 127 (
    .a 3 6 <| .nil _ _) ?_
  refine aw_rt ?_
  exact en_ret [.agg #[.int .i64 (Sp.ptx slat slon sc lon), .int .i64 (Sp.pty slat sc lat)], .int .i64 0] (by kernel_rfl)


end Go.Proofs.YtcokagabchjilaaGreat.Am
