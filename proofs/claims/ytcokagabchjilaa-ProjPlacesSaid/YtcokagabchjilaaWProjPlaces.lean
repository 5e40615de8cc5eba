/-
  The walk of the law ProjPlaces.
-/
import Derived.Test.YtcokagabchjilaaProg
import Derived.Test.YtcokagabchjilaaAm16
import Derived.Test.YtcokagabchjilaaPr5
import Derived.Test.YtcokagabchjilaaPr4
import Derived.Test.YtcokagabchjilaaPt2
namespace Go.Proofs.Ytcokagabchjilaa.Am
open Go Go.Proofs
set_option maxRecDepth 100000
set_option maxHeartbeats 4000000
set_option linter.unusedVariables false
set_option linter.unusedSimpArgs false

theorem projPlaces_walk (slat slon sc lat lon : Int) :
    AC Try.prog 5 0 ([.agg #[.int .i64 slat, .int .i64 slon, .int .i64 sc], .int .i64 lat, .int .i64 lon]) [] (.bool true) [] := by
  refine ac_in Try.func5 (fun w0 W pin => ?_)
  refine aw_p 3 (
    .a 2 1 <| .nil _ _) ?_
  refine aw_sq 6 7 ?_
  refine aw_p 13 (
    .p (does_c (terrlaw1_projBegun_ok)) <| .a 1 2 <| .nil _ _) ?_
  refine aw_fl 27 ?_
  refine aw_sk ?_
  refine then_normal ?_
  rcases Bool.eq_false_or_eq_true (decide (slat < (-80000000))) with h1 | h1
  · have h1p : ((slat < (-80000000))) := by first | (simpa using h1) | (have h1q := h1; simp at h1q; omega) | (have h1q := bx1 h1; simp at h1q; omega)
    refine aw_p 15 (
      .a 3 2 <| .p (does_c (to_no slat slon sc lat lon (by omega))) <| .a 9 2 <| .nil _ _) ?_
    refine aw_p 31 (
      .a 3 4 <| .p (does_c (point_no slat slon sc lat lon (by omega))) <| .a 6 4 <| .nil _ _) ?_
    refine aw_sq 62 63 ?_
    refine aw_p 125 (
      .a 1 5 <| .p (does_c (pcheck_no slat slon sc (by omega))) <| .a 17 5 <| .nil _ _) ?_
    refine aw_tr 250 ?_
    refine aw_p 501 (
      .a 9 5 <| .p (does_e true ((show (((0 == 0) && ((0 == 0) && true)) && (((0 == 0) && ((0 == 0) && true)) && true)) = true from by decide))) <| .a 4 5 <| .p (does_e true ((show (((0 == 0) && ((0 == 0) && true)) && (((0 == 0) && ((0 == 0) && true)) && true)) = true from by decide))) <| .a 4 5 <|
      .p (does_e true ((show ((0 == 0) && ((0 == 0) && true)) = true from by decide))) <| .a 2 5 <| .nil _ _) ?_
    refine aw_rt ?_
    refine then_ret ?_
    exact en_ret [.bool true] (by kernel_rfl)
  · have h1p : ¬ ((slat < (-80000000))) := by first | (simpa using h1) | (have h1q := h1; simp at h1q; omega) | (have h1q := bx2 h1; simp at h1q; omega)
    rcases Bool.eq_false_or_eq_true (decide (slat > 80000000)) with h2 | h2
    · have h2p : ((slat > 80000000)) := by first | (simpa using h2) | (have h2q := h2; simp at h2q; omega) | (have h2q := bx1 h2; simp at h2q; omega)
      refine aw_p 15 (
        .a 3 2 <| .p (does_c (to_no slat slon sc lat lon (by omega))) <| .a 9 2 <| .nil _ _) ?_
      refine aw_p 31 (
        .a 3 4 <| .p (does_c (point_no slat slon sc lat lon (by omega))) <| .a 6 4 <| .nil _ _) ?_
      refine aw_sq 62 63 ?_
      refine aw_p 125 (
        .a 1 5 <| .p (does_c (pcheck_no slat slon sc (by omega))) <| .a 17 5 <| .nil _ _) ?_
      refine aw_tr 250 ?_
      refine aw_p 501 (
        .a 9 5 <| .p (does_e true ((show (((0 == 0) && ((0 == 0) && true)) && (((0 == 0) && ((0 == 0) && true)) && true)) = true from by decide))) <| .a 4 5 <| .p (does_e true ((show (((0 == 0) && ((0 == 0) && true)) && (((0 == 0) && ((0 == 0) && true)) && true)) = true from by decide))) <| .a 4 5 <|
        .p (does_e true ((show ((0 == 0) && ((0 == 0) && true)) = true from by decide))) <| .a 2 5 <| .nil _ _) ?_
      refine aw_rt ?_
      refine then_ret ?_
      exact en_ret [.bool true] (by kernel_rfl)
    · have h2p : ¬ ((slat > 80000000)) := by first | (simpa using h2) | (have h2q := h2; simp at h2q; omega) | (have h2q := bx2 h2; simp at h2q; omega)
      rcases Bool.eq_false_or_eq_true (decide (slon < (-180000000))) with h3 | h3
      · have h3p : ((slon < (-180000000))) := by first | (simpa using h3) | (have h3q := h3; simp at h3q; omega) | (have h3q := bx1 h3; simp at h3q; omega)
        refine aw_p 15 (
          .a 3 2 <| .p (does_c (to_no slat slon sc lat lon (by omega))) <| .a 9 2 <| .nil _ _) ?_
        refine aw_p 31 (
          .a 3 4 <| .p (does_c (point_no slat slon sc lat lon (by omega))) <| .a 6 4 <| .nil _ _) ?_
        refine aw_sq 62 63 ?_
        refine aw_p 125 (
          .a 1 5 <| .p (does_c (pcheck_no slat slon sc (by omega))) <| .a 17 5 <| .nil _ _) ?_
        refine aw_tr 250 ?_
        refine aw_p 501 (
          .a 9 5 <| .p (does_e true ((show (((0 == 0) && ((0 == 0) && true)) && (((0 == 0) && ((0 == 0) && true)) && true)) = true from by decide))) <| .a 4 5 <| .p (does_e true ((show (((0 == 0) && ((0 == 0) && true)) && (((0 == 0) && ((0 == 0) && true)) && true)) = true from by decide))) <| .a 4 5 <|
          .p (does_e true ((show ((0 == 0) && ((0 == 0) && true)) = true from by decide))) <| .a 2 5 <| .nil _ _) ?_
        refine aw_rt ?_
        refine then_ret ?_
        exact en_ret [.bool true] (by kernel_rfl)
      · have h3p : ¬ ((slon < (-180000000))) := by first | (simpa using h3) | (have h3q := h3; simp at h3q; omega) | (have h3q := bx2 h3; simp at h3q; omega)
        rcases Bool.eq_false_or_eq_true (decide (slon > 180000000)) with h4 | h4
        · have h4p : ((slon > 180000000)) := by first | (simpa using h4) | (have h4q := h4; simp at h4q; omega) | (have h4q := bx1 h4; simp at h4q; omega)
          refine aw_p 15 (
            .a 3 2 <| .p (does_c (to_no slat slon sc lat lon (by omega))) <| .a 9 2 <| .nil _ _) ?_
          refine aw_p 31 (
            .a 3 4 <| .p (does_c (point_no slat slon sc lat lon (by omega))) <| .a 6 4 <| .nil _ _) ?_
          refine aw_sq 62 63 ?_
          refine aw_p 125 (
            .a 1 5 <| .p (does_c (pcheck_no slat slon sc (by omega))) <| .a 17 5 <| .nil _ _) ?_
          refine aw_tr 250 ?_
          refine aw_p 501 (
            .a 9 5 <| .p (does_e true ((show (((0 == 0) && ((0 == 0) && true)) && (((0 == 0) && ((0 == 0) && true)) && true)) = true from by decide))) <| .a 4 5 <| .p (does_e true ((show (((0 == 0) && ((0 == 0) && true)) && (((0 == 0) && ((0 == 0) && true)) && true)) = true from by decide))) <| .a 4 5 <|
            .p (does_e true ((show ((0 == 0) && ((0 == 0) && true)) = true from by decide))) <| .a 2 5 <| .nil _ _) ?_
          refine aw_rt ?_
          refine then_ret ?_
          exact en_ret [.bool true] (by kernel_rfl)
        · have h4p : ¬ ((slon > 180000000)) := by first | (simpa using h4) | (have h4q := h4; simp at h4q; omega) | (have h4q := bx2 h4; simp at h4q; omega)
          rcases Bool.eq_false_or_eq_true (decide (sc < 1)) with h5 | h5
          · have h5p : ((sc < 1)) := by first | (simpa using h5) | (have h5q := h5; simp at h5q; omega) | (have h5q := bx1 h5; simp at h5q; omega)
            refine aw_p 15 (
              .a 3 2 <| .p (does_c (to_no slat slon sc lat lon (by omega))) <| .a 9 2 <| .nil _ _) ?_
            refine aw_p 31 (
              .a 3 4 <| .p (does_c (point_no slat slon sc lat lon (by omega))) <| .a 6 4 <| .nil _ _) ?_
            refine aw_sq 62 63 ?_
            refine aw_p 125 (
              .a 1 5 <| .p (does_c (pcheck_no slat slon sc (by omega))) <| .a 17 5 <| .nil _ _) ?_
            refine aw_tr 250 ?_
            refine aw_p 501 (
              .a 9 5 <| .p (does_e true ((show (((0 == 0) && ((0 == 0) && true)) && (((0 == 0) && ((0 == 0) && true)) && true)) = true from by decide))) <| .a 4 5 <| .p (does_e true ((show (((0 == 0) && ((0 == 0) && true)) && (((0 == 0) && ((0 == 0) && true)) && true)) = true from by decide))) <| .a 4 5 <|
              .p (does_e true ((show ((0 == 0) && ((0 == 0) && true)) = true from by decide))) <| .a 2 5 <| .nil _ _) ?_
            refine aw_rt ?_
            refine then_ret ?_
            exact en_ret [.bool true] (by kernel_rfl)
          · have h5p : ¬ ((sc < 1)) := by first | (simpa using h5) | (have h5q := h5; simp at h5q; omega) | (have h5q := bx2 h5; simp at h5q; omega)
            rcases Bool.eq_false_or_eq_true (decide (sc > 10000)) with h6 | h6
            · have h6p : ((sc > 10000)) := by first | (simpa using h6) | (have h6q := h6; simp at h6q; omega) | (have h6q := bx1 h6; simp at h6q; omega)
              refine aw_p 15 (
                .a 3 2 <| .p (does_c (to_no slat slon sc lat lon (by omega))) <| .a 9 2 <| .nil _ _) ?_
              refine aw_p 31 (
                .a 3 4 <| .p (does_c (point_no slat slon sc lat lon (by omega))) <| .a 6 4 <| .nil _ _) ?_
              refine aw_sq 62 63 ?_
              refine aw_p 125 (
                .a 1 5 <| .p (does_c (pcheck_no slat slon sc (by omega))) <| .a 17 5 <| .nil _ _) ?_
              refine aw_tr 250 ?_
              refine aw_p 501 (
                .a 9 5 <| .p (does_e true ((show (((0 == 0) && ((0 == 0) && true)) && (((0 == 0) && ((0 == 0) && true)) && true)) = true from by decide))) <| .a 4 5 <| .p (does_e true ((show (((0 == 0) && ((0 == 0) && true)) && (((0 == 0) && ((0 == 0) && true)) && true)) = true from by decide))) <| .a 4 5 <|
                .p (does_e true ((show ((0 == 0) && ((0 == 0) && true)) = true from by decide))) <| .a 2 5 <| .nil _ _) ?_
              refine aw_rt ?_
              refine then_ret ?_
              exact en_ret [.bool true] (by kernel_rfl)
            · have h6p : ¬ ((sc > 10000)) := by first | (simpa using h6) | (have h6q := h6; simp at h6q; omega) | (have h6q := bx2 h6; simp at h6q; omega)
              rcases Bool.eq_false_or_eq_true (decide (lat < (-80000000))) with h7 | h7
              · have h7p : ((lat < (-80000000))) := by first | (simpa using h7) | (have h7q := h7; simp at h7q; omega) | (have h7q := bx1 h7; simp at h7q; omega)
                refine aw_p 15 (
                  .a 3 2 <| .p (does_c (to_no slat slon sc lat lon (by omega))) <| .a 9 2 <| .nil _ _) ?_
                refine aw_p 31 (
                  .a 3 4 <| .p (does_c (point_no slat slon sc lat lon (by omega))) <| .a 6 4 <| .nil _ _) ?_
                refine aw_sq 62 63 ?_
                refine aw_p 125 (
                  .a 1 5 <| .p (does_c (pcheck_ok slat slon sc (by omega) (by omega) (by omega) (by omega) (by omega) (by omega))) <| .a 3 5 <| .p (does_b true (h7)) <| .a 13 5 <| .nil _ _) ?_
                refine aw_tr 250 ?_
                refine aw_p 501 (
                  .a 9 5 <| .p (does_e true ((show (((0 == 0) && ((0 == 0) && true)) && (((0 == 0) && ((0 == 0) && true)) && true)) = true from by decide))) <| .a 4 5 <| .p (does_e true ((show (((0 == 0) && ((0 == 0) && true)) && (((0 == 0) && ((0 == 0) && true)) && true)) = true from by decide))) <| .a 4 5 <|
                  .p (does_e true ((show ((0 == 0) && ((0 == 0) && true)) = true from by decide))) <| .a 2 5 <| .nil _ _) ?_
                refine aw_rt ?_
                refine then_ret ?_
                exact en_ret [.bool true] (by kernel_rfl)
              · have h7p : ¬ ((lat < (-80000000))) := by first | (simpa using h7) | (have h7q := h7; simp at h7q; omega) | (have h7q := bx2 h7; simp at h7q; omega)
                rcases Bool.eq_false_or_eq_true (decide (lat > 80000000)) with h8 | h8
                · have h8p : ((lat > 80000000)) := by first | (simpa using h8) | (have h8q := h8; simp at h8q; omega) | (have h8q := bx1 h8; simp at h8q; omega)
                  refine aw_p 15 (
                    .a 3 2 <| .p (does_c (to_no slat slon sc lat lon (by omega))) <| .a 9 2 <| .nil _ _) ?_
                  refine aw_p 31 (
                    .a 3 4 <| .p (does_c (point_no slat slon sc lat lon (by omega))) <| .a 6 4 <| .nil _ _) ?_
                  refine aw_sq 62 63 ?_
                  refine aw_p 125 (
                    .a 1 5 <| .p (does_c (pcheck_ok slat slon sc (by omega) (by omega) (by omega) (by omega) (by omega) (by omega))) <| .a 3 5 <| .p (does_b false (h7)) <| .a 3 5 <| .p (does_b true (h8)) <| .a 9 5 <| .nil _ _) ?_
                  refine aw_tr 250 ?_
                  refine aw_p 501 (
                    .a 9 5 <| .p (does_e true ((show (((0 == 0) && ((0 == 0) && true)) && (((0 == 0) && ((0 == 0) && true)) && true)) = true from by decide))) <| .a 4 5 <| .p (does_e true ((show (((0 == 0) && ((0 == 0) && true)) && (((0 == 0) && ((0 == 0) && true)) && true)) = true from by decide))) <| .a 4 5 <|
                    .p (does_e true ((show ((0 == 0) && ((0 == 0) && true)) = true from by decide))) <| .a 2 5 <| .nil _ _) ?_
                  refine aw_rt ?_
                  refine then_ret ?_
                  exact en_ret [.bool true] (by kernel_rfl)
                · have h8p : ¬ ((lat > 80000000)) := by first | (simpa using h8) | (have h8q := h8; simp at h8q; omega) | (have h8q := bx2 h8; simp at h8q; omega)
                  rcases Bool.eq_false_or_eq_true (decide (lon < (-180000000))) with h9 | h9
                  · have h9p : ((lon < (-180000000))) := by first | (simpa using h9) | (have h9q := h9; simp at h9q; omega) | (have h9q := bx1 h9; simp at h9q; omega)
                    refine aw_p 15 (
                      .a 3 2 <| .p (does_c (to_no slat slon sc lat lon (by omega))) <| .a 9 2 <| .nil _ _) ?_
                    refine aw_p 31 (
                      .a 3 4 <| .p (does_c (point_no slat slon sc lat lon (by omega))) <| .a 6 4 <| .nil _ _) ?_
                    refine aw_sq 62 63 ?_
                    refine aw_p 125 (
                      .a 1 5 <| .p (does_c (pcheck_ok slat slon sc (by omega) (by omega) (by omega) (by omega) (by omega) (by omega))) <| .a 3 5 <| .p (does_b false (h7)) <| .a 3 5 <| .p (does_b false (h8)) <| .a 3 5 <| .p (does_b true (h9)) <| .a 5 5 <| .nil _ _) ?_
                    refine aw_tr 250 ?_
                    refine aw_p 501 (
                      .a 9 5 <| .p (does_e true ((show (((0 == 0) && ((0 == 0) && true)) && (((0 == 0) && ((0 == 0) && true)) && true)) = true from by decide))) <| .a 4 5 <| .p (does_e true ((show (((0 == 0) && ((0 == 0) && true)) && (((0 == 0) && ((0 == 0) && true)) && true)) = true from by decide))) <| .a 4 5 <|
                      .p (does_e true ((show ((0 == 0) && ((0 == 0) && true)) = true from by decide))) <| .a 2 5 <| .nil _ _) ?_
                    refine aw_rt ?_
                    refine then_ret ?_
                    exact en_ret [.bool true] (by kernel_rfl)
                  · have h9p : ¬ ((lon < (-180000000))) := by first | (simpa using h9) | (have h9q := h9; simp at h9q; omega) | (have h9q := bx2 h9; simp at h9q; omega)
                    rcases Bool.eq_false_or_eq_true (decide (lon > 180000000)) with h10 | h10
                    · have h10p : ((lon > 180000000)) := by first | (simpa using h10) | (have h10q := h10; simp at h10q; omega) | (have h10q := bx1 h10; simp at h10q; omega)
                      refine aw_p 15 (
                        .a 3 2 <| .p (does_c (to_no slat slon sc lat lon (by omega))) <| .a 9 2 <| .nil _ _) ?_
                      refine aw_p 31 (
                        .a 3 4 <| .p (does_c (point_no slat slon sc lat lon (by omega))) <| .a 6 4 <| .nil _ _) ?_
                      refine aw_sq 62 63 ?_
                      refine aw_p 125 (
                        .a 1 5 <| .p (does_c (pcheck_ok slat slon sc (by omega) (by omega) (by omega) (by omega) (by omega) (by omega))) <| .a 3 5 <| .p (does_b false (h7)) <| .a 3 5 <| .p (does_b false (h8)) <| .a 3 5 <| .p (does_b false (h9)) <| .a 3 5 <| .p (does_b true (h10)) <| .a 1 5 <| .nil _ _) ?_
                      refine aw_tr 250 ?_
                      refine aw_p 501 (
                        .a 9 5 <| .p (does_e true ((show (((0 == 0) && ((0 == 0) && true)) && (((0 == 0) && ((0 == 0) && true)) && true)) = true from by decide))) <| .a 4 5 <| .p (does_e true ((show (((0 == 0) && ((0 == 0) && true)) && (((0 == 0) && ((0 == 0) && true)) && true)) = true from by decide))) <| .a 4 5 <|
                        .p (does_e true ((show ((0 == 0) && ((0 == 0) && true)) = true from by decide))) <| .a 2 5 <| .nil _ _) ?_
                      refine aw_rt ?_
                      refine then_ret ?_
                      exact en_ret [.bool true] (by kernel_rfl)
                    · have h10p : ¬ ((lon > 180000000)) := by first | (simpa using h10) | (have h10q := h10; simp at h10q; omega) | (have h10q := bx2 h10; simp at h10q; omega)
                      have s0 : -80000000 ≤ slat := (by omega); have s1 : slat ≤ 80000000 := (by omega); have s2 : -180000000 ≤ slon := (by omega); have s3 : slon ≤ 180000000 := (by omega); have s4 : 1 ≤ sc := (by omega); have s5 : sc ≤ 10000 := (by omega); have ab := Sp.acr_bd (slat := slat) (slon := slon) (sc := sc) (lon := lon) s0 s1 s2 s3 (by omega) (by omega) s4 s5; have vb := Sp.v_bd (slat := slat) (sc := sc) (lat := lat) s0 s1 (by omega) (by omega) s4 s5
                      refine aw_p 15 (
                        .a 3 2 <| .p (does_c (to_ok slat slon sc lat lon (by omega) (by omega) (by omega) (by omega) (by omega) (by omega) (by omega) (by omega) (by omega) (by omega))) <| .a 9 2 <| .nil _ _) ?_
                      rcases Bool.eq_false_or_eq_true ((((Sp.ptx slat slon sc lon) == (Sp.lim 1048576 (Sp.ptx slat slon sc lon))) && (((Sp.pty slat sc lat) == (Sp.lim 1048576 (Sp.pty slat sc lat))) && true))) with h11 | h11
                      · refine aw_p 31 (
                          .a 3 4 <| .p (does_c (point_ok slat slon sc lat lon (by omega) (by omega) (by omega) (by omega) (by omega) (by omega) (by omega) (by omega) (by omega) (by omega) h11)) <| .a 6 4 <| .nil _ _) ?_
                        refine aw_sq 62 63 ?_
                        refine aw_p 125 (
                          .a 1 5 <| .p (does_c (pcheck_ok slat slon sc (by omega) (by omega) (by omega) (by omega) (by omega) (by omega))) <| .a 3 5 <| .p (does_b false (h7)) <| .a 3 5 <| .p (does_b false (h8)) <| .a 3 5 <| .p (does_b false (h9)) <| .a 3 5 <| .p (does_b false (h10)) <| .a 1 5 <| .nil _ _) ?_
                        refine aw_fl 251 ?_
                        refine aw_sk ?_
                        refine then_normal ?_
                        refine aw_p 127 (
                          .a 7 5 <| .p (does_c (racross_ok slat slon sc lon (by omega) (by omega) (by omega) (by omega) (by omega) (by omega) (by omega) (by omega))) <| .a 2 5 <| .nil _ _) ?_
                        refine aw_p 255 (
                          .a 3 6 <| .p (does_i (lat - slat) (wrap_i64 (by omega) (by omega)) .i64) <| .a 2 6 <| .p (does_i ((lat - slat) * sc) (wrap_i64 (by omega) (by omega)) .i64) <| .p (does_c (llof_ok ((lat - slat) * sc) (by omega) (by omega))) <| .p (does_c (llof_ok 1000000 (by decide) (by decide))) <|
                          .p (does_c ((by have h := rratio_ok ((lat - slat) * sc) 1000000 (by omega) (by omega) (by decide) (by decide); rw [(Sp.dv_yes (a := (((lat - slat) * sc : Int) : Rat)) (b := ((1000000 : Int) : Rat)) (Sp.ne_rat (d := 1000000) (by decide))).1, (Sp.dv_yes (a := (((lat - slat) * sc : Int) : Rat)) (b := ((1000000 : Int) : Rat)) (Sp.ne_rat (d := 1000000) (by decide))).2.1, (Sp.dv_yes (a := (((lat - slat) * sc : Int) : Rat)) (b := ((1000000 : Int) : Rat)) (Sp.ne_rat (d := 1000000) (by decide))).2.2, Sp.qe_fit (q := (((lat - slat) * sc : Int) : Rat) / ((1000000 : Int) : Rat)) (Sp.fx_fit (D := 1000000) (n := ((lat - slat) * sc)) (by decide) (by decide) (by omega) (by omega))] at h; exact h))) <|
                          .a 6 6 <| .nil _ _) ?_
                        refine aw_sq 510 511 ?_
                        refine aw_d 1021 (
                          .a 5 7 <| .p (does_c (fixed_ok ((Sp.acr slat slon sc lon).1) ((Sp.acr slat slon sc lon).2) 65536 (by omega) (by omega) (by omega) (by omega) (by decide) (by decide))) <|
                          .p (does_e false ((show (!((((Sp.qn (Sp.fx 65536 ((Sp.acr slat slon sc lon).1))) == (Sp.qn (Sp.fx 65536 ((Sp.acr slat slon sc lon).1)))) && (((Sp.qd (Sp.fx 65536 ((Sp.acr slat slon sc lon).1))) == (Sp.qd (Sp.fx 65536 ((Sp.acr slat slon sc lon).1)))) && true)) && ((((Sp.qn (Sp.fx 65536 ((Sp.acr slat slon sc lon).2))) == (Sp.qn (Sp.fx 65536 ((Sp.acr slat slon sc lon).2)))) && (((Sp.qd (Sp.fx 65536 ((Sp.acr slat slon sc lon).2))) == (Sp.qd (Sp.fx 65536 ((Sp.acr slat slon sc lon).2)))) && true)) && true))) = false from by simp))) <|
                          .a 6 7 <|
                          .p (does_e false ((show (!((((Sp.qn (Sp.fx 1000000 ((lat - slat) * sc))) == (Sp.qn (Sp.fx 1000000 ((lat - slat) * sc)))) && (((Sp.qd (Sp.fx 1000000 ((lat - slat) * sc))) == (Sp.qd (Sp.fx 1000000 ((lat - slat) * sc)))) && true)) && ((((Sp.qn (Sp.fx 1000000 ((lat - slat) * sc))) == (Sp.qn (Sp.fx 1000000 ((lat - slat) * sc)))) && (((Sp.qd (Sp.fx 1000000 ((lat - slat) * sc))) == (Sp.qd (Sp.fx 1000000 ((lat - slat) * sc)))) && true)) && true))) = false from by simp))) <|
                          .a 1 7 <| .nil _ _) ?_
                        refine aw_fl 2043 ?_
                        refine aw_sk ?_
                        refine then_normal ?_
                        refine aw_p 1023 (
                          .a 4 7 <| .p (does_i (((Sp.acr slat slon sc lon).1) + ((Sp.acr slat slon sc lon).2)) (wrap_i64 (by omega) (by omega)) .i64) <| .p (does_i ((((Sp.acr slat slon sc lon).1) + ((Sp.acr slat slon sc lon).2)) + 65536) (wrap_i64 (by omega) (by omega)) .i64) <|
                          .p (does_i (Sp.ptx slat slon sc lon) ((show (Int.fdiv ((((Sp.acr slat slon sc lon).1) + ((Sp.acr slat slon sc lon).2)) + 65536) 131072) = (Sp.ptx slat slon sc lon) from (show _ = Sp.ptx slat slon sc lon from by rw [Int.fdiv_eq_ediv_of_nonneg _ (by decide)]; rfl))) .i64) <|
                          .p (does_c (terrlaw1_at_ok (Sp.ptx slat slon sc lon) 0)) <| .a 2 7 <| .nil _ _) ?_
                        refine aw_p 2047 (
                          .a 1 8 <|
                          .p (does_c ((by have h := (by have h := rdown_ok (Sp.qn (Sp.fx 1000000 ((lat - slat) * sc))) (Sp.qd (Sp.fx 1000000 ((lat - slat) * sc))) (by have := Sp.qn_bd (Sp.fx 1000000 ((lat - slat) * sc)); omega) (by have := Sp.qn_bd (Sp.fx 1000000 ((lat - slat) * sc)); omega) (by have := Sp.qd_bd (Sp.fx 1000000 ((lat - slat) * sc)); omega) (by have := Sp.qd_bd (Sp.fx 1000000 ((lat - slat) * sc)); omega); rw [(Sp.rv_fit (q := (Sp.fx 1000000 ((lat - slat) * sc))) (Sp.fx_fit (D := 1000000) (n := ((lat - slat) * sc)) (by decide) (by decide) (by omega) (by omega)))] at h; exact h); rw [Sp.fx_floor (D := 1000000) (by decide) ((lat - slat) * sc)] at h; exact h))) <|
                          .a 1 8 <| .nil _ _) ?_
                        refine aw_sq 4094 4095 ?_
                        refine aw_p 8189 (
                          .a 3 8 <| .p (does_i (lat - slat) (wrap_i64 (by omega) (by omega)) .i64) <| .a 2 8 <| .p (does_i ((lat - slat) * sc) (wrap_i64 (by omega) (by omega)) .i64) <| .p (does_i (((lat - slat) * sc) * 2) (wrap_i64 (by omega) (by omega)) .i64) <| .a 1 8 <|
                          .p (does_i ((((lat - slat) * sc) / 1000000) * 2000000) (wrap_i64 (by omega) (by omega)) .i64) <| .p (does_i ((((lat - slat) * sc) * 2) - ((((lat - slat) * sc) / 1000000) * 2000000)) (wrap_i64 (by omega) (by omega)) .i64) <| .a 1 8 <| .nil _ _) ?_
                        refine aw_cd 16378 16379 (decide (((((lat - slat) * sc) * 2) - ((((lat - slat) * sc) / 1000000) * 2000000)) ≥ 1000000)) (fun h12 => ?_) (fun h12 => ?_)
                        · have h12p : ((((((lat - slat) * sc) * 2) - ((((lat - slat) * sc) / 1000000) * 2000000)) ≥ 1000000)) := by first | (simpa using h12) | (have h12q := h12; simp at h12q; omega) | (have h12q := bx1 h12; simp at h12q; omega)
                          refine aw_p1 (
                            .a 1 8 <| .p (does_i (Sp.pty slat sc lat) ((show (IntKind.wrap .i64 ((((lat - slat) * sc) / 1000000) + 1)) = (Sp.pty slat sc lat) from ((wrap_i64 (by omega) (by omega)).trans (Sp.pty_up.1 (by omega))))) .i64) <| .a 1 8 <| .nil _ _) ?_
                          refine then_normal ?_
                          refine aw_p 8191 (
                            .a 3 8 <| .nil _ _) ?_
                          refine aw_sq 16382 16383 ?_
                          refine aw_p 32765 (
                            .a 1 8 <| .p (does_cb _ (risvalid_ok (Sp.ptx slat slon sc lon) (Sp.pty slat sc lat)) true (h11)) <| .a 1 8 <| .nil _ _) ?_
                          refine aw_fl 65531 ?_
                          refine aw_sk ?_
                          refine then_normal ?_
                          refine aw_p 32767 (
                            .a 5 8 <| .p (does_e true ((show (((Sp.ptx slat slon sc lon) == (Sp.ptx slat slon sc lon)) && (((Sp.pty slat sc lat) == (Sp.pty slat sc lat)) && true)) = true from by simp))) <| .a 2 8 <| .nil _ _) ?_
                          refine aw_rt ?_
                          exact en_ret [.bool true] (by kernel_rfl)
                        · have h12p : ¬ ((((((lat - slat) * sc) * 2) - ((((lat - slat) * sc) / 1000000) * 2000000)) ≥ 1000000)) := by first | (simpa using h12) | (have h12q := h12; simp at h12q; omega) | (have h12q := bx2 h12; simp at h12q; omega)
                          refine aw_sk ?_
                          refine then_normal ?_
                          refine aw_p 8191 (
                            .p (does_i (Sp.pty slat sc lat) ((show (((lat - slat) * sc) / 1000000) = (Sp.pty slat sc lat) from (Sp.pty_up.2 (by omega)))) .i64) <| .a 2 8 <| .nil _ _) ?_
                          refine aw_sq 16382 16383 ?_
                          refine aw_p 32765 (
                            .a 1 8 <| .p (does_cb _ (risvalid_ok (Sp.ptx slat slon sc lon) (Sp.pty slat sc lat)) true (h11)) <| .a 1 8 <| .nil _ _) ?_
                          refine aw_fl 65531 ?_
                          refine aw_sk ?_
                          refine then_normal ?_
                          refine aw_p 32767 (
                            .a 5 8 <| .p (does_e true ((show (((Sp.ptx slat slon sc lon) == (Sp.ptx slat slon sc lon)) && (((Sp.pty slat sc lat) == (Sp.pty slat sc lat)) && true)) = true from by simp))) <| .a 2 8 <| .nil _ _) ?_
                          refine aw_rt ?_
                          exact en_ret [.bool true] (by kernel_rfl)
                      · refine aw_p 31 (
                          .a 3 4 <| .p (does_c (point_far slat slon sc lat lon (by omega) (by omega) (by omega) (by omega) (by omega) (by omega) (by omega) (by omega) (by omega) (by omega) h11)) <| .a 6 4 <| .nil _ _) ?_
                        refine aw_sq 62 63 ?_
                        refine aw_p 125 (
                          .a 1 5 <| .p (does_c (pcheck_ok slat slon sc (by omega) (by omega) (by omega) (by omega) (by omega) (by omega))) <| .a 3 5 <| .p (does_b false (h7)) <| .a 3 5 <| .p (does_b false (h8)) <| .a 3 5 <| .p (does_b false (h9)) <| .a 3 5 <| .p (does_b false (h10)) <| .a 1 5 <| .nil _ _) ?_
                        refine aw_fl 251 ?_
                        refine aw_sk ?_
                        refine then_normal ?_
                        refine aw_p 127 (
                          .a 7 5 <| .p (does_c (racross_ok slat slon sc lon (by omega) (by omega) (by omega) (by omega) (by omega) (by omega) (by omega) (by omega))) <| .a 2 5 <| .nil _ _) ?_
                        refine aw_p 255 (
                          .a 3 6 <| .p (does_i (lat - slat) (wrap_i64 (by omega) (by omega)) .i64) <| .a 2 6 <| .p (does_i ((lat - slat) * sc) (wrap_i64 (by omega) (by omega)) .i64) <| .p (does_c (llof_ok ((lat - slat) * sc) (by omega) (by omega))) <| .p (does_c (llof_ok 1000000 (by decide) (by decide))) <|
                          .p (does_c ((by have h := rratio_ok ((lat - slat) * sc) 1000000 (by omega) (by omega) (by decide) (by decide); rw [(Sp.dv_yes (a := (((lat - slat) * sc : Int) : Rat)) (b := ((1000000 : Int) : Rat)) (Sp.ne_rat (d := 1000000) (by decide))).1, (Sp.dv_yes (a := (((lat - slat) * sc : Int) : Rat)) (b := ((1000000 : Int) : Rat)) (Sp.ne_rat (d := 1000000) (by decide))).2.1, (Sp.dv_yes (a := (((lat - slat) * sc : Int) : Rat)) (b := ((1000000 : Int) : Rat)) (Sp.ne_rat (d := 1000000) (by decide))).2.2, Sp.qe_fit (q := (((lat - slat) * sc : Int) : Rat) / ((1000000 : Int) : Rat)) (Sp.fx_fit (D := 1000000) (n := ((lat - slat) * sc)) (by decide) (by decide) (by omega) (by omega))] at h; exact h))) <|
                          .a 6 6 <| .nil _ _) ?_
                        refine aw_sq 510 511 ?_
                        refine aw_d 1021 (
                          .a 5 7 <| .p (does_c (fixed_ok ((Sp.acr slat slon sc lon).1) ((Sp.acr slat slon sc lon).2) 65536 (by omega) (by omega) (by omega) (by omega) (by decide) (by decide))) <|
                          .p (does_e false ((show (!((((Sp.qn (Sp.fx 65536 ((Sp.acr slat slon sc lon).1))) == (Sp.qn (Sp.fx 65536 ((Sp.acr slat slon sc lon).1)))) && (((Sp.qd (Sp.fx 65536 ((Sp.acr slat slon sc lon).1))) == (Sp.qd (Sp.fx 65536 ((Sp.acr slat slon sc lon).1)))) && true)) && ((((Sp.qn (Sp.fx 65536 ((Sp.acr slat slon sc lon).2))) == (Sp.qn (Sp.fx 65536 ((Sp.acr slat slon sc lon).2)))) && (((Sp.qd (Sp.fx 65536 ((Sp.acr slat slon sc lon).2))) == (Sp.qd (Sp.fx 65536 ((Sp.acr slat slon sc lon).2)))) && true)) && true))) = false from by simp))) <|
                          .a 6 7 <|
                          .p (does_e false ((show (!((((Sp.qn (Sp.fx 1000000 ((lat - slat) * sc))) == (Sp.qn (Sp.fx 1000000 ((lat - slat) * sc)))) && (((Sp.qd (Sp.fx 1000000 ((lat - slat) * sc))) == (Sp.qd (Sp.fx 1000000 ((lat - slat) * sc)))) && true)) && ((((Sp.qn (Sp.fx 1000000 ((lat - slat) * sc))) == (Sp.qn (Sp.fx 1000000 ((lat - slat) * sc)))) && (((Sp.qd (Sp.fx 1000000 ((lat - slat) * sc))) == (Sp.qd (Sp.fx 1000000 ((lat - slat) * sc)))) && true)) && true))) = false from by simp))) <|
                          .a 1 7 <| .nil _ _) ?_
                        refine aw_fl 2043 ?_
                        refine aw_sk ?_
                        refine then_normal ?_
                        refine aw_p 1023 (
                          .a 4 7 <| .p (does_i (((Sp.acr slat slon sc lon).1) + ((Sp.acr slat slon sc lon).2)) (wrap_i64 (by omega) (by omega)) .i64) <| .p (does_i ((((Sp.acr slat slon sc lon).1) + ((Sp.acr slat slon sc lon).2)) + 65536) (wrap_i64 (by omega) (by omega)) .i64) <|
                          .p (does_i (Sp.ptx slat slon sc lon) ((show (Int.fdiv ((((Sp.acr slat slon sc lon).1) + ((Sp.acr slat slon sc lon).2)) + 65536) 131072) = (Sp.ptx slat slon sc lon) from (show _ = Sp.ptx slat slon sc lon from by rw [Int.fdiv_eq_ediv_of_nonneg _ (by decide)]; rfl))) .i64) <|
                          .p (does_c (terrlaw1_at_ok (Sp.ptx slat slon sc lon) 0)) <| .a 2 7 <| .nil _ _) ?_
                        refine aw_p 2047 (
                          .a 1 8 <|
                          .p (does_c ((by have h := (by have h := rdown_ok (Sp.qn (Sp.fx 1000000 ((lat - slat) * sc))) (Sp.qd (Sp.fx 1000000 ((lat - slat) * sc))) (by have := Sp.qn_bd (Sp.fx 1000000 ((lat - slat) * sc)); omega) (by have := Sp.qn_bd (Sp.fx 1000000 ((lat - slat) * sc)); omega) (by have := Sp.qd_bd (Sp.fx 1000000 ((lat - slat) * sc)); omega) (by have := Sp.qd_bd (Sp.fx 1000000 ((lat - slat) * sc)); omega); rw [(Sp.rv_fit (q := (Sp.fx 1000000 ((lat - slat) * sc))) (Sp.fx_fit (D := 1000000) (n := ((lat - slat) * sc)) (by decide) (by decide) (by omega) (by omega)))] at h; exact h); rw [Sp.fx_floor (D := 1000000) (by decide) ((lat - slat) * sc)] at h; exact h))) <|
                          .a 1 8 <| .nil _ _) ?_
                        refine aw_sq 4094 4095 ?_
                        refine aw_p 8189 (
                          .a 3 8 <| .p (does_i (lat - slat) (wrap_i64 (by omega) (by omega)) .i64) <| .a 2 8 <| .p (does_i ((lat - slat) * sc) (wrap_i64 (by omega) (by omega)) .i64) <| .p (does_i (((lat - slat) * sc) * 2) (wrap_i64 (by omega) (by omega)) .i64) <| .a 1 8 <|
                          .p (does_i ((((lat - slat) * sc) / 1000000) * 2000000) (wrap_i64 (by omega) (by omega)) .i64) <| .p (does_i ((((lat - slat) * sc) * 2) - ((((lat - slat) * sc) / 1000000) * 2000000)) (wrap_i64 (by omega) (by omega)) .i64) <| .a 1 8 <| .nil _ _) ?_
                        refine aw_cd 16378 16379 (decide (((((lat - slat) * sc) * 2) - ((((lat - slat) * sc) / 1000000) * 2000000)) ≥ 1000000)) (fun h13 => ?_) (fun h13 => ?_)
                        · have h13p : ((((((lat - slat) * sc) * 2) - ((((lat - slat) * sc) / 1000000) * 2000000)) ≥ 1000000)) := by first | (simpa using h13) | (have h13q := h13; simp at h13q; omega) | (have h13q := bx1 h13; simp at h13q; omega)
                          refine aw_p1 (
                            .a 1 8 <| .p (does_i (Sp.pty slat sc lat) ((show (IntKind.wrap .i64 ((((lat - slat) * sc) / 1000000) + 1)) = (Sp.pty slat sc lat) from ((wrap_i64 (by omega) (by omega)).trans (Sp.pty_up.1 (by omega))))) .i64) <| .a 1 8 <| .nil _ _) ?_
                          refine then_normal ?_
                          refine aw_p 8191 (
                            .a 3 8 <| .nil _ _) ?_
                          refine aw_sq 16382 16383 ?_
                          refine aw_p 32765 (
                            .a 1 8 <| .p (does_cb _ (risvalid_ok (Sp.ptx slat slon sc lon) (Sp.pty slat sc lat)) false (h11)) <| .a 1 8 <| .nil _ _) ?_
                          refine aw_tr 65530 ?_
                          refine aw_p 131061 (
                            .a 5 8 <| .p (does_e true ((show ((0 == 0) && ((0 == 0) && true)) = true from by decide))) <| .a 2 8 <| .nil _ _) ?_
                          refine aw_rt ?_
                          refine then_ret ?_
                          exact en_ret [.bool true] (by kernel_rfl)
                        · have h13p : ¬ ((((((lat - slat) * sc) * 2) - ((((lat - slat) * sc) / 1000000) * 2000000)) ≥ 1000000)) := by first | (simpa using h13) | (have h13q := h13; simp at h13q; omega) | (have h13q := bx2 h13; simp at h13q; omega)
                          refine aw_sk ?_
                          refine then_normal ?_
                          refine aw_p 8191 (
                            .p (does_i (Sp.pty slat sc lat) ((show (((lat - slat) * sc) / 1000000) = (Sp.pty slat sc lat) from (Sp.pty_up.2 (by omega)))) .i64) <| .a 2 8 <| .nil _ _) ?_
                          refine aw_sq 16382 16383 ?_
                          refine aw_p 32765 (
                            .a 1 8 <| .p (does_cb _ (risvalid_ok (Sp.ptx slat slon sc lon) (Sp.pty slat sc lat)) false (h11)) <| .a 1 8 <| .nil _ _) ?_
                          refine aw_tr 65530 ?_
                          refine aw_p 131061 (
                            .a 5 8 <| .p (does_e true ((show ((0 == 0) && ((0 == 0) && true)) = true from by decide))) <| .a 2 8 <| .nil _ _) ?_
                          refine aw_rt ?_
                          refine then_ret ?_
                          exact en_ret [.bool true] (by kernel_rfl)


end Go.Proofs.Ytcokagabchjilaa.Am
