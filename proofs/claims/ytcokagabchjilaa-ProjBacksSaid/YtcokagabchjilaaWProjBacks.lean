/-
  The walk of the law ProjBacks.
-/
import Derived.Test.YtcokagabchjilaaProg
import Derived.Test.YtcokagabchjilaaAm16
import Derived.Test.YtcokagabchjilaaPr5
import Derived.Test.YtcokagabchjilaaPr4
import Derived.Test.YtcokagabchjilaaPr6
import Derived.Test.YtcokagabchjilaaPt2
namespace Go.Proofs.Ytcokagabchjilaa.Am
open Go Go.Proofs
set_option maxRecDepth 100000
set_option maxHeartbeats 4000000
set_option linter.unusedVariables false
set_option linter.unusedSimpArgs false

theorem projBacks_walk (slat slon sc px py : Int) :
    AC Try.prog 7 0 ([.agg #[.int .i64 slat, .int .i64 slon, .int .i64 sc], .agg #[.int .i64 px, .int .i64 py]]) [] (.bool true) [] := by
  refine ac_in Try.func7 (fun w0 W pin => ?_)
  refine aw_p 3 (
    .a 3 1 <| .nil _ _) ?_
  refine aw_sq 6 7 ?_
  refine aw_p 13 (
    .p (does_c (terrlaw1_projBegun_ok)) <| .a 1 3 <| .nil _ _) ?_
  refine aw_fl 27 ?_
  refine aw_sk ?_
  refine then_normal ?_
  rcases Bool.eq_false_or_eq_true (decide (slat < (-80000000))) with h1 | h1
  · have h1p : ((slat < (-80000000))) := by first | (simpa using h1) | (have h1q := h1; simp at h1q; omega) | (have h1q := bx1 h1; simp at h1q; omega)
    refine aw_p 15 (
      .a 2 3 <| .p (does_c (back_no slat slon sc px py (.inl (by omega)))) <| .a 9 3 <| .nil _ _) ?_
    refine aw_sq 30 31 ?_
    refine aw_p 61 (
      .a 1 5 <| .p (does_c (pcheck_no slat slon sc (by omega))) <| .a 6 5 <| .nil _ _) ?_
    refine aw_tr 122 ?_
    refine aw_p 245 (
      .a 5 5 <| .p (does_e true ((show (((0 == 0) && ((0 == 0) && true)) && (((0 == 0) && ((0 == 0) && true)) && true)) = true from by decide))) <| .a 4 5 <| .p (does_e true ((show (((0 == 0) && ((0 == 0) && true)) && (((0 == 0) && ((0 == 0) && true)) && true)) = true from by decide))) <| .a 2 5 <| .nil _ _) ?_
    refine aw_rt ?_
    refine then_ret ?_
    exact en_ret [.bool true] (by kernel_rfl)
  · have h1p : ¬ ((slat < (-80000000))) := by first | (simpa using h1) | (have h1q := h1; simp at h1q; omega) | (have h1q := bx2 h1; simp at h1q; omega)
    rcases Bool.eq_false_or_eq_true (decide (slat > 80000000)) with h2 | h2
    · have h2p : ((slat > 80000000)) := by first | (simpa using h2) | (have h2q := h2; simp at h2q; omega) | (have h2q := bx1 h2; simp at h2q; omega)
      refine aw_p 15 (
        .a 2 3 <| .p (does_c (back_no slat slon sc px py (.inl (by omega)))) <| .a 9 3 <| .nil _ _) ?_
      refine aw_sq 30 31 ?_
      refine aw_p 61 (
        .a 1 5 <| .p (does_c (pcheck_no slat slon sc (by omega))) <| .a 6 5 <| .nil _ _) ?_
      refine aw_tr 122 ?_
      refine aw_p 245 (
        .a 5 5 <| .p (does_e true ((show (((0 == 0) && ((0 == 0) && true)) && (((0 == 0) && ((0 == 0) && true)) && true)) = true from by decide))) <| .a 4 5 <| .p (does_e true ((show (((0 == 0) && ((0 == 0) && true)) && (((0 == 0) && ((0 == 0) && true)) && true)) = true from by decide))) <| .a 2 5 <| .nil _ _) ?_
      refine aw_rt ?_
      refine then_ret ?_
      exact en_ret [.bool true] (by kernel_rfl)
    · have h2p : ¬ ((slat > 80000000)) := by first | (simpa using h2) | (have h2q := h2; simp at h2q; omega) | (have h2q := bx2 h2; simp at h2q; omega)
      rcases Bool.eq_false_or_eq_true (decide (slon < (-180000000))) with h3 | h3
      · have h3p : ((slon < (-180000000))) := by first | (simpa using h3) | (have h3q := h3; simp at h3q; omega) | (have h3q := bx1 h3; simp at h3q; omega)
        refine aw_p 15 (
          .a 2 3 <| .p (does_c (back_no slat slon sc px py (.inl (by omega)))) <| .a 9 3 <| .nil _ _) ?_
        refine aw_sq 30 31 ?_
        refine aw_p 61 (
          .a 1 5 <| .p (does_c (pcheck_no slat slon sc (by omega))) <| .a 6 5 <| .nil _ _) ?_
        refine aw_tr 122 ?_
        refine aw_p 245 (
          .a 5 5 <| .p (does_e true ((show (((0 == 0) && ((0 == 0) && true)) && (((0 == 0) && ((0 == 0) && true)) && true)) = true from by decide))) <| .a 4 5 <| .p (does_e true ((show (((0 == 0) && ((0 == 0) && true)) && (((0 == 0) && ((0 == 0) && true)) && true)) = true from by decide))) <| .a 2 5 <| .nil _ _) ?_
        refine aw_rt ?_
        refine then_ret ?_
        exact en_ret [.bool true] (by kernel_rfl)
      · have h3p : ¬ ((slon < (-180000000))) := by first | (simpa using h3) | (have h3q := h3; simp at h3q; omega) | (have h3q := bx2 h3; simp at h3q; omega)
        rcases Bool.eq_false_or_eq_true (decide (slon > 180000000)) with h4 | h4
        · have h4p : ((slon > 180000000)) := by first | (simpa using h4) | (have h4q := h4; simp at h4q; omega) | (have h4q := bx1 h4; simp at h4q; omega)
          refine aw_p 15 (
            .a 2 3 <| .p (does_c (back_no slat slon sc px py (.inl (by omega)))) <| .a 9 3 <| .nil _ _) ?_
          refine aw_sq 30 31 ?_
          refine aw_p 61 (
            .a 1 5 <| .p (does_c (pcheck_no slat slon sc (by omega))) <| .a 6 5 <| .nil _ _) ?_
          refine aw_tr 122 ?_
          refine aw_p 245 (
            .a 5 5 <| .p (does_e true ((show (((0 == 0) && ((0 == 0) && true)) && (((0 == 0) && ((0 == 0) && true)) && true)) = true from by decide))) <| .a 4 5 <| .p (does_e true ((show (((0 == 0) && ((0 == 0) && true)) && (((0 == 0) && ((0 == 0) && true)) && true)) = true from by decide))) <| .a 2 5 <| .nil _ _) ?_
          refine aw_rt ?_
          refine then_ret ?_
          exact en_ret [.bool true] (by kernel_rfl)
        · have h4p : ¬ ((slon > 180000000)) := by first | (simpa using h4) | (have h4q := h4; simp at h4q; omega) | (have h4q := bx2 h4; simp at h4q; omega)
          rcases Bool.eq_false_or_eq_true (decide (sc < 1)) with h5 | h5
          · have h5p : ((sc < 1)) := by first | (simpa using h5) | (have h5q := h5; simp at h5q; omega) | (have h5q := bx1 h5; simp at h5q; omega)
            refine aw_p 15 (
              .a 2 3 <| .p (does_c (back_no slat slon sc px py (.inl (by omega)))) <| .a 9 3 <| .nil _ _) ?_
            refine aw_sq 30 31 ?_
            refine aw_p 61 (
              .a 1 5 <| .p (does_c (pcheck_no slat slon sc (by omega))) <| .a 6 5 <| .nil _ _) ?_
            refine aw_tr 122 ?_
            refine aw_p 245 (
              .a 5 5 <| .p (does_e true ((show (((0 == 0) && ((0 == 0) && true)) && (((0 == 0) && ((0 == 0) && true)) && true)) = true from by decide))) <| .a 4 5 <| .p (does_e true ((show (((0 == 0) && ((0 == 0) && true)) && (((0 == 0) && ((0 == 0) && true)) && true)) = true from by decide))) <| .a 2 5 <| .nil _ _) ?_
            refine aw_rt ?_
            refine then_ret ?_
            exact en_ret [.bool true] (by kernel_rfl)
          · have h5p : ¬ ((sc < 1)) := by first | (simpa using h5) | (have h5q := h5; simp at h5q; omega) | (have h5q := bx2 h5; simp at h5q; omega)
            rcases Bool.eq_false_or_eq_true (decide (sc > 10000)) with h6 | h6
            · have h6p : ((sc > 10000)) := by first | (simpa using h6) | (have h6q := h6; simp at h6q; omega) | (have h6q := bx1 h6; simp at h6q; omega)
              refine aw_p 15 (
                .a 2 3 <| .p (does_c (back_no slat slon sc px py (.inl (by omega)))) <| .a 9 3 <| .nil _ _) ?_
              refine aw_sq 30 31 ?_
              refine aw_p 61 (
                .a 1 5 <| .p (does_c (pcheck_no slat slon sc (by omega))) <| .a 6 5 <| .nil _ _) ?_
              refine aw_tr 122 ?_
              refine aw_p 245 (
                .a 5 5 <| .p (does_e true ((show (((0 == 0) && ((0 == 0) && true)) && (((0 == 0) && ((0 == 0) && true)) && true)) = true from by decide))) <| .a 4 5 <| .p (does_e true ((show (((0 == 0) && ((0 == 0) && true)) && (((0 == 0) && ((0 == 0) && true)) && true)) = true from by decide))) <| .a 2 5 <| .nil _ _) ?_
              refine aw_rt ?_
              refine then_ret ?_
              exact en_ret [.bool true] (by kernel_rfl)
            · have h6p : ¬ ((sc > 10000)) := by first | (simpa using h6) | (have h6q := h6; simp at h6q; omega) | (have h6q := bx2 h6; simp at h6q; omega)
              rcases Bool.eq_false_or_eq_true (((px == (Sp.lim 1048576 px)) && ((py == (Sp.lim 1048576 py)) && true))) with h7 | h7
              · have ob := Sp.okb_bd (x := px) (y := py) h7; have s4 : 1 ≤ sc := (by omega); have wb := Sp.bw_bd (px := px) (sc := sc) (by omega) (by omega) s4; have wl := Sp.bw_le (px := px) s4; have m1 := Sp.mul_bd (a := slat) (b := sc) (A := 80000000) (B := 10000) (by omega) (by omega) (by omega) (by omega)
                rcases Bool.eq_false_or_eq_true (decide ((Sp.mn (Sp.bwl px sc) (Sp.bwh px sc)) < (-1073741824))) with h8 | h8
                · have h8p : (((Sp.mn (Sp.bwl px sc) (Sp.bwh px sc)) < (-1073741824))) := by first | (simpa using h8) | (have h8q := h8; simp at h8q; omega) | (have h8q := bx1 h8; simp at h8q; omega)
                  refine aw_p 15 (
                    .a 2 3 <| .p (does_c (back_far slat slon sc px py (by omega) (by omega) (by omega) (by omega) (by omega) (by omega) h7 (by omega))) <| .a 9 3 <| .nil _ _) ?_
                  refine aw_sq 30 31 ?_
                  refine aw_p 61 (
                    .a 1 5 <| .p (does_c (pcheck_ok slat slon sc (by omega) (by omega) (by omega) (by omega) (by omega) (by omega))) <| .a 3 5 <| .p (does_cb _ (risvalid_ok px py) true (h7)) <| .a 2 5 <| .nil _ _) ?_
                  refine aw_fl 123 ?_
                  refine aw_sk ?_
                  refine then_normal ?_
                  refine aw_d 63 (
                    .a 2 5 <| .p (does_i (px - 1) (wrap_i64 (by omega) (by omega)) .i64) <| .p (does_i ((px - 1) * 1000000) (wrap_i64 (by omega) (by omega)) .i64) <| .p (does_c (llof_ok ((px - 1) * 1000000) (by omega) (by omega))) <| .a 2 5 <| .p (does_c (llof_ok sc (by omega) (by omega))) <|
                    .p (does_c ((by have h := rratio_ok ((px - 1) * 1000000) sc (by omega) (by omega) (by omega) (by omega); rw [(Sp.dv_yes (a := (((px - 1) * 1000000 : Int) : Rat)) (b := ((sc : Int) : Rat)) (Sp.ne_rat (d := sc) (by omega))).1, (Sp.dv_yes (a := (((px - 1) * 1000000 : Int) : Rat)) (b := ((sc : Int) : Rat)) (Sp.ne_rat (d := sc) (by omega))).2.1, (Sp.dv_yes (a := (((px - 1) * 1000000 : Int) : Rat)) (b := ((sc : Int) : Rat)) (Sp.ne_rat (d := sc) (by omega))).2.2, Sp.qe_fit (q := (((px - 1) * 1000000 : Int) : Rat) / ((sc : Int) : Rat)) (Sp.fx_fit (D := sc) (n := ((px - 1) * 1000000)) (by omega) (by omega) (by omega) (by omega))] at h; exact h))) <|
                    .a 6 5 <| .nil _ _) ?_
                  refine aw_d 127 (
                    .a 2 6 <| .p (does_i (px + 1) (wrap_i64 (by omega) (by omega)) .i64) <| .p (does_i ((px + 1) * 1000000) (wrap_i64 (by omega) (by omega)) .i64) <| .p (does_c (llof_ok ((px + 1) * 1000000) (by omega) (by omega))) <| .a 2 6 <| .p (does_c (llof_ok sc (by omega) (by omega))) <|
                    .p (does_c ((by have h := rratio_ok ((px + 1) * 1000000) sc (by omega) (by omega) (by omega) (by omega); rw [(Sp.dv_yes (a := (((px + 1) * 1000000 : Int) : Rat)) (b := ((sc : Int) : Rat)) (Sp.ne_rat (d := sc) (by omega))).1, (Sp.dv_yes (a := (((px + 1) * 1000000 : Int) : Rat)) (b := ((sc : Int) : Rat)) (Sp.ne_rat (d := sc) (by omega))).2.1, (Sp.dv_yes (a := (((px + 1) * 1000000 : Int) : Rat)) (b := ((sc : Int) : Rat)) (Sp.ne_rat (d := sc) (by omega))).2.2, Sp.qe_fit (q := (((px + 1) * 1000000 : Int) : Rat) / ((sc : Int) : Rat)) (Sp.fx_fit (D := sc) (n := ((px + 1) * 1000000)) (by omega) (by omega) (by omega) (by omega))] at h; exact h))) <|
                    .a 6 6 <| .nil _ _) ?_
                  refine aw_d 255 (
                    .a 1 7 <|
                    .p (does_c ((by have h := (by have h := rdown_ok (Sp.qn (Sp.fx sc ((px - 1) * 1000000))) (Sp.qd (Sp.fx sc ((px - 1) * 1000000))) (by have := Sp.qn_bd (Sp.fx sc ((px - 1) * 1000000)); omega) (by have := Sp.qn_bd (Sp.fx sc ((px - 1) * 1000000)); omega) (by have := Sp.qd_bd (Sp.fx sc ((px - 1) * 1000000)); omega) (by have := Sp.qd_bd (Sp.fx sc ((px - 1) * 1000000)); omega); rw [(Sp.rv_fit (q := (Sp.fx sc ((px - 1) * 1000000))) (Sp.fx_fit (D := sc) (n := ((px - 1) * 1000000)) (by omega) (by omega) (by omega) (by omega)))] at h; exact h); rw [Sp.fx_floor (D := sc) (by omega) ((px - 1) * 1000000)] at h; exact h))) <|
                    .a 1 7 <|
                    .p (does_c ((by have h := (by have h := ropp_ok (Sp.qn (Sp.fx sc ((px + 1) * 1000000))) (Sp.qd (Sp.fx sc ((px + 1) * 1000000))) (by have := Sp.qn_bd (Sp.fx sc ((px + 1) * 1000000)); omega) (by have := Sp.qn_bd (Sp.fx sc ((px + 1) * 1000000)); omega) (by have := Sp.qd_bd (Sp.fx sc ((px + 1) * 1000000)); omega) (by have := Sp.qd_bd (Sp.fx sc ((px + 1) * 1000000)); omega); rw [(Sp.rv_fit (q := (Sp.fx sc ((px + 1) * 1000000))) (Sp.fx_fit (D := sc) (n := ((px + 1) * 1000000)) (by omega) (by omega) (by omega) (by omega)))] at h; exact h); rw [Sp.fx_neg sc ((px + 1) * 1000000)] at h; exact h))) <|
                    .p (does_c ((by have h := (by have h := rdown_ok (Sp.qn (Sp.fx sc (-((px + 1) * 1000000)))) (Sp.qd (Sp.fx sc (-((px + 1) * 1000000)))) (by have := Sp.qn_bd (Sp.fx sc (-((px + 1) * 1000000))); omega) (by have := Sp.qn_bd (Sp.fx sc (-((px + 1) * 1000000))); omega) (by have := Sp.qd_bd (Sp.fx sc (-((px + 1) * 1000000))); omega) (by have := Sp.qd_bd (Sp.fx sc (-((px + 1) * 1000000))); omega); rw [(Sp.rv_fit (q := (Sp.fx sc (-((px + 1) * 1000000)))) (Sp.fx_fit (D := sc) (n := (-((px + 1) * 1000000))) (by omega) (by omega) (by omega) (by omega)))] at h; exact h); rw [Sp.fx_floor (D := sc) (by omega) (-((px + 1) * 1000000))] at h; exact h))) <|
                    .p (does_i (Sp.bwh px sc) ((show (IntKind.wrap .i64 (0 - ((-((px + 1) * 1000000)) / sc))) = (Sp.bwh px sc) from (by show IntKind.wrap .i64 _ = _; rw [wrap_i64 (by unfold Sp.bwh at wb; omega) (by unfold Sp.bwh at wb; omega), Int.zero_sub]; rfl))) .i64) <| .a 2 7 <| .nil _ _) ?_
                  refine aw_sq 510 511 ?_
                  refine aw_p 1021 (
                    .a 3 7 <| .p (does_b true (h8)) <| .a 6 7 <| .nil _ _) ?_
                  refine aw_tr 2042 ?_
                  refine aw_p 4085 (
                    .a 5 7 <| .p (does_e true ((show (((0 == 0) && ((0 == 0) && true)) && (((0 == 0) && ((0 == 0) && true)) && true)) = true from by decide))) <| .a 4 7 <| .p (does_e true ((show (((0 == 0) && ((0 == 0) && true)) && (((0 == 0) && ((0 == 0) && true)) && true)) = true from by decide))) <| .a 2 7 <| .nil _ _) ?_
                  refine aw_rt ?_
                  refine then_ret ?_
                  exact en_ret [.bool true] (by kernel_rfl)
                · have h8p : ¬ (((Sp.mn (Sp.bwl px sc) (Sp.bwh px sc)) < (-1073741824))) := by first | (simpa using h8) | (have h8q := h8; simp at h8q; omega) | (have h8q := bx2 h8; simp at h8q; omega)
                  rcases Bool.eq_false_or_eq_true (decide ((Sp.mx (Sp.bwl px sc) (Sp.bwh px sc)) > 1073741824)) with h9 | h9
                  · have h9p : (((Sp.mx (Sp.bwl px sc) (Sp.bwh px sc)) > 1073741824)) := by first | (simpa using h9) | (have h9q := h9; simp at h9q; omega) | (have h9q := bx1 h9; simp at h9q; omega)
                    refine aw_p 15 (
                      .a 2 3 <| .p (does_c (back_far slat slon sc px py (by omega) (by omega) (by omega) (by omega) (by omega) (by omega) h7 (by omega))) <| .a 9 3 <| .nil _ _) ?_
                    refine aw_sq 30 31 ?_
                    refine aw_p 61 (
                      .a 1 5 <| .p (does_c (pcheck_ok slat slon sc (by omega) (by omega) (by omega) (by omega) (by omega) (by omega))) <| .a 3 5 <| .p (does_cb _ (risvalid_ok px py) true (h7)) <| .a 2 5 <| .nil _ _) ?_
                    refine aw_fl 123 ?_
                    refine aw_sk ?_
                    refine then_normal ?_
                    refine aw_d 63 (
                      .a 2 5 <| .p (does_i (px - 1) (wrap_i64 (by omega) (by omega)) .i64) <| .p (does_i ((px - 1) * 1000000) (wrap_i64 (by omega) (by omega)) .i64) <| .p (does_c (llof_ok ((px - 1) * 1000000) (by omega) (by omega))) <| .a 2 5 <| .p (does_c (llof_ok sc (by omega) (by omega))) <|
                      .p (does_c ((by have h := rratio_ok ((px - 1) * 1000000) sc (by omega) (by omega) (by omega) (by omega); rw [(Sp.dv_yes (a := (((px - 1) * 1000000 : Int) : Rat)) (b := ((sc : Int) : Rat)) (Sp.ne_rat (d := sc) (by omega))).1, (Sp.dv_yes (a := (((px - 1) * 1000000 : Int) : Rat)) (b := ((sc : Int) : Rat)) (Sp.ne_rat (d := sc) (by omega))).2.1, (Sp.dv_yes (a := (((px - 1) * 1000000 : Int) : Rat)) (b := ((sc : Int) : Rat)) (Sp.ne_rat (d := sc) (by omega))).2.2, Sp.qe_fit (q := (((px - 1) * 1000000 : Int) : Rat) / ((sc : Int) : Rat)) (Sp.fx_fit (D := sc) (n := ((px - 1) * 1000000)) (by omega) (by omega) (by omega) (by omega))] at h; exact h))) <|
                      .a 6 5 <| .nil _ _) ?_
                    refine aw_d 127 (
                      .a 2 6 <| .p (does_i (px + 1) (wrap_i64 (by omega) (by omega)) .i64) <| .p (does_i ((px + 1) * 1000000) (wrap_i64 (by omega) (by omega)) .i64) <| .p (does_c (llof_ok ((px + 1) * 1000000) (by omega) (by omega))) <| .a 2 6 <| .p (does_c (llof_ok sc (by omega) (by omega))) <|
                      .p (does_c ((by have h := rratio_ok ((px + 1) * 1000000) sc (by omega) (by omega) (by omega) (by omega); rw [(Sp.dv_yes (a := (((px + 1) * 1000000 : Int) : Rat)) (b := ((sc : Int) : Rat)) (Sp.ne_rat (d := sc) (by omega))).1, (Sp.dv_yes (a := (((px + 1) * 1000000 : Int) : Rat)) (b := ((sc : Int) : Rat)) (Sp.ne_rat (d := sc) (by omega))).2.1, (Sp.dv_yes (a := (((px + 1) * 1000000 : Int) : Rat)) (b := ((sc : Int) : Rat)) (Sp.ne_rat (d := sc) (by omega))).2.2, Sp.qe_fit (q := (((px + 1) * 1000000 : Int) : Rat) / ((sc : Int) : Rat)) (Sp.fx_fit (D := sc) (n := ((px + 1) * 1000000)) (by omega) (by omega) (by omega) (by omega))] at h; exact h))) <|
                      .a 6 6 <| .nil _ _) ?_
                    refine aw_d 255 (
                      .a 1 7 <|
                      .p (does_c ((by have h := (by have h := rdown_ok (Sp.qn (Sp.fx sc ((px - 1) * 1000000))) (Sp.qd (Sp.fx sc ((px - 1) * 1000000))) (by have := Sp.qn_bd (Sp.fx sc ((px - 1) * 1000000)); omega) (by have := Sp.qn_bd (Sp.fx sc ((px - 1) * 1000000)); omega) (by have := Sp.qd_bd (Sp.fx sc ((px - 1) * 1000000)); omega) (by have := Sp.qd_bd (Sp.fx sc ((px - 1) * 1000000)); omega); rw [(Sp.rv_fit (q := (Sp.fx sc ((px - 1) * 1000000))) (Sp.fx_fit (D := sc) (n := ((px - 1) * 1000000)) (by omega) (by omega) (by omega) (by omega)))] at h; exact h); rw [Sp.fx_floor (D := sc) (by omega) ((px - 1) * 1000000)] at h; exact h))) <|
                      .a 1 7 <|
                      .p (does_c ((by have h := (by have h := ropp_ok (Sp.qn (Sp.fx sc ((px + 1) * 1000000))) (Sp.qd (Sp.fx sc ((px + 1) * 1000000))) (by have := Sp.qn_bd (Sp.fx sc ((px + 1) * 1000000)); omega) (by have := Sp.qn_bd (Sp.fx sc ((px + 1) * 1000000)); omega) (by have := Sp.qd_bd (Sp.fx sc ((px + 1) * 1000000)); omega) (by have := Sp.qd_bd (Sp.fx sc ((px + 1) * 1000000)); omega); rw [(Sp.rv_fit (q := (Sp.fx sc ((px + 1) * 1000000))) (Sp.fx_fit (D := sc) (n := ((px + 1) * 1000000)) (by omega) (by omega) (by omega) (by omega)))] at h; exact h); rw [Sp.fx_neg sc ((px + 1) * 1000000)] at h; exact h))) <|
                      .p (does_c ((by have h := (by have h := rdown_ok (Sp.qn (Sp.fx sc (-((px + 1) * 1000000)))) (Sp.qd (Sp.fx sc (-((px + 1) * 1000000)))) (by have := Sp.qn_bd (Sp.fx sc (-((px + 1) * 1000000))); omega) (by have := Sp.qn_bd (Sp.fx sc (-((px + 1) * 1000000))); omega) (by have := Sp.qd_bd (Sp.fx sc (-((px + 1) * 1000000))); omega) (by have := Sp.qd_bd (Sp.fx sc (-((px + 1) * 1000000))); omega); rw [(Sp.rv_fit (q := (Sp.fx sc (-((px + 1) * 1000000)))) (Sp.fx_fit (D := sc) (n := (-((px + 1) * 1000000))) (by omega) (by omega) (by omega) (by omega)))] at h; exact h); rw [Sp.fx_floor (D := sc) (by omega) (-((px + 1) * 1000000))] at h; exact h))) <|
                      .p (does_i (Sp.bwh px sc) ((show (IntKind.wrap .i64 (0 - ((-((px + 1) * 1000000)) / sc))) = (Sp.bwh px sc) from (by show IntKind.wrap .i64 _ = _; rw [wrap_i64 (by unfold Sp.bwh at wb; omega) (by unfold Sp.bwh at wb; omega), Int.zero_sub]; rfl))) .i64) <| .a 2 7 <| .nil _ _) ?_
                    refine aw_sq 510 511 ?_
                    refine aw_p 1021 (
                      .a 3 7 <| .p (does_b false (h8)) <| .a 4 7 <| .p (does_b true (h9)) <| .a 1 7 <| .nil _ _) ?_
                    refine aw_tr 2042 ?_
                    refine aw_p 4085 (
                      .a 5 7 <| .p (does_e true ((show (((0 == 0) && ((0 == 0) && true)) && (((0 == 0) && ((0 == 0) && true)) && true)) = true from by decide))) <| .a 4 7 <| .p (does_e true ((show (((0 == 0) && ((0 == 0) && true)) && (((0 == 0) && ((0 == 0) && true)) && true)) = true from by decide))) <| .a 2 7 <| .nil _ _) ?_
                    refine aw_rt ?_
                    refine then_ret ?_
                    exact en_ret [.bool true] (by kernel_rfl)
                  · have h9p : ¬ (((Sp.mx (Sp.bwl px sc) (Sp.bwh px sc)) > 1073741824)) := by first | (simpa using h9) | (have h9q := h9; simp at h9q; omega) | (have h9q := bx2 h9; simp at h9q; omega)
                    have hn : (-1073741824 ≤ Sp.bwl px sc ∧ Sp.bwl px sc ≤ 1073741824) ∧ (-1073741824 ≤ Sp.bwh px sc ∧ Sp.bwh px sc ≤ 1073741824) := (by unfold Sp.mn Sp.mx at *; (repeat' split at *) <;> omega); have cu := Sp.cs_unit (lat := slat) (by omega) (by omega) 5 (by decide); unfold Sp.Unit1 at cu; have hc : 0 < (Sp.cs slat 5).1 := (by omega); have hd : 0 < (Sp.cs slat 5).2 := (by omega); have bb := Sp.bkLH_bd (c := (Sp.cs slat 5).1) (d := (Sp.cs slat 5).2) (l := Sp.bwl px sc) (h := Sp.bwh px sc) (by omega) (by omega) hn.1.1 hn.1.2 hn.2.1 hn.2.2; have ba := Sp.bk_all (c := (Sp.cs slat 5).1) (d := (Sp.cs slat 5).2) (l := Sp.bwl px sc) (h := Sp.bwh px sc) hc hd; have q00 := Sp.bk_bd (c := (Sp.cs slat 5).1) (l := (Sp.bwl px sc)) (by omega) (by omega) (by omega); have r00 := Sp.bk_bd (c := (Sp.cs slat 5).1) (l := -(Sp.bwl px sc)) (by omega) (by omega) (by omega); rw [Int.neg_mul] at r00; have q01 := Sp.bk_bd (c := (Sp.cs slat 5).1) (l := (Sp.bwh px sc)) (by omega) (by omega) (by omega); have r01 := Sp.bk_bd (c := (Sp.cs slat 5).1) (l := -(Sp.bwh px sc)) (by omega) (by omega) (by omega); rw [Int.neg_mul] at r01; have q10 := Sp.bk_bd (c := (Sp.cs slat 5).2) (l := (Sp.bwl px sc)) (by omega) (by omega) (by omega); have r10 := Sp.bk_bd (c := (Sp.cs slat 5).2) (l := -(Sp.bwl px sc)) (by omega) (by omega) (by omega); rw [Int.neg_mul] at r10; have q11 := Sp.bk_bd (c := (Sp.cs slat 5).2) (l := (Sp.bwh px sc)) (by omega) (by omega) (by omega); have r11 := Sp.bk_bd (c := (Sp.cs slat 5).2) (l := -(Sp.bwh px sc)) (by omega) (by omega) (by omega); rw [Int.neg_mul] at r11
                    refine aw_p 15 (
                      .a 2 3 <| .p (does_c (back_ok slat slon sc px py (by omega) (by omega) (by omega) (by omega) (by omega) (by omega) h7 (by omega) (by omega))) <| .a 9 3 <| .nil _ _) ?_
                    refine aw_sq 30 31 ?_
                    refine aw_p 61 (
                      .a 1 5 <| .p (does_c (pcheck_ok slat slon sc (by omega) (by omega) (by omega) (by omega) (by omega) (by omega))) <| .a 3 5 <| .p (does_cb _ (risvalid_ok px py) true (h7)) <| .a 2 5 <| .nil _ _) ?_
                    refine aw_fl 123 ?_
                    refine aw_sk ?_
                    refine then_normal ?_
                    refine aw_d 63 (
                      .a 2 5 <| .p (does_i (px - 1) (wrap_i64 (by omega) (by omega)) .i64) <| .p (does_i ((px - 1) * 1000000) (wrap_i64 (by omega) (by omega)) .i64) <| .p (does_c (llof_ok ((px - 1) * 1000000) (by omega) (by omega))) <| .a 2 5 <| .p (does_c (llof_ok sc (by omega) (by omega))) <|
                      .p (does_c ((by have h := rratio_ok ((px - 1) * 1000000) sc (by omega) (by omega) (by omega) (by omega); rw [(Sp.dv_yes (a := (((px - 1) * 1000000 : Int) : Rat)) (b := ((sc : Int) : Rat)) (Sp.ne_rat (d := sc) (by omega))).1, (Sp.dv_yes (a := (((px - 1) * 1000000 : Int) : Rat)) (b := ((sc : Int) : Rat)) (Sp.ne_rat (d := sc) (by omega))).2.1, (Sp.dv_yes (a := (((px - 1) * 1000000 : Int) : Rat)) (b := ((sc : Int) : Rat)) (Sp.ne_rat (d := sc) (by omega))).2.2, Sp.qe_fit (q := (((px - 1) * 1000000 : Int) : Rat) / ((sc : Int) : Rat)) (Sp.fx_fit (D := sc) (n := ((px - 1) * 1000000)) (by omega) (by omega) (by omega) (by omega))] at h; exact h))) <|
                      .a 6 5 <| .nil _ _) ?_
                    refine aw_d 127 (
                      .a 2 6 <| .p (does_i (px + 1) (wrap_i64 (by omega) (by omega)) .i64) <| .p (does_i ((px + 1) * 1000000) (wrap_i64 (by omega) (by omega)) .i64) <| .p (does_c (llof_ok ((px + 1) * 1000000) (by omega) (by omega))) <| .a 2 6 <| .p (does_c (llof_ok sc (by omega) (by omega))) <|
                      .p (does_c ((by have h := rratio_ok ((px + 1) * 1000000) sc (by omega) (by omega) (by omega) (by omega); rw [(Sp.dv_yes (a := (((px + 1) * 1000000 : Int) : Rat)) (b := ((sc : Int) : Rat)) (Sp.ne_rat (d := sc) (by omega))).1, (Sp.dv_yes (a := (((px + 1) * 1000000 : Int) : Rat)) (b := ((sc : Int) : Rat)) (Sp.ne_rat (d := sc) (by omega))).2.1, (Sp.dv_yes (a := (((px + 1) * 1000000 : Int) : Rat)) (b := ((sc : Int) : Rat)) (Sp.ne_rat (d := sc) (by omega))).2.2, Sp.qe_fit (q := (((px + 1) * 1000000 : Int) : Rat) / ((sc : Int) : Rat)) (Sp.fx_fit (D := sc) (n := ((px + 1) * 1000000)) (by omega) (by omega) (by omega) (by omega))] at h; exact h))) <|
                      .a 6 6 <| .nil _ _) ?_
                    refine aw_d 255 (
                      .a 1 7 <|
                      .p (does_c ((by have h := (by have h := rdown_ok (Sp.qn (Sp.fx sc ((px - 1) * 1000000))) (Sp.qd (Sp.fx sc ((px - 1) * 1000000))) (by have := Sp.qn_bd (Sp.fx sc ((px - 1) * 1000000)); omega) (by have := Sp.qn_bd (Sp.fx sc ((px - 1) * 1000000)); omega) (by have := Sp.qd_bd (Sp.fx sc ((px - 1) * 1000000)); omega) (by have := Sp.qd_bd (Sp.fx sc ((px - 1) * 1000000)); omega); rw [(Sp.rv_fit (q := (Sp.fx sc ((px - 1) * 1000000))) (Sp.fx_fit (D := sc) (n := ((px - 1) * 1000000)) (by omega) (by omega) (by omega) (by omega)))] at h; exact h); rw [Sp.fx_floor (D := sc) (by omega) ((px - 1) * 1000000)] at h; exact h))) <|
                      .a 1 7 <|
                      .p (does_c ((by have h := (by have h := ropp_ok (Sp.qn (Sp.fx sc ((px + 1) * 1000000))) (Sp.qd (Sp.fx sc ((px + 1) * 1000000))) (by have := Sp.qn_bd (Sp.fx sc ((px + 1) * 1000000)); omega) (by have := Sp.qn_bd (Sp.fx sc ((px + 1) * 1000000)); omega) (by have := Sp.qd_bd (Sp.fx sc ((px + 1) * 1000000)); omega) (by have := Sp.qd_bd (Sp.fx sc ((px + 1) * 1000000)); omega); rw [(Sp.rv_fit (q := (Sp.fx sc ((px + 1) * 1000000))) (Sp.fx_fit (D := sc) (n := ((px + 1) * 1000000)) (by omega) (by omega) (by omega) (by omega)))] at h; exact h); rw [Sp.fx_neg sc ((px + 1) * 1000000)] at h; exact h))) <|
                      .p (does_c ((by have h := (by have h := rdown_ok (Sp.qn (Sp.fx sc (-((px + 1) * 1000000)))) (Sp.qd (Sp.fx sc (-((px + 1) * 1000000)))) (by have := Sp.qn_bd (Sp.fx sc (-((px + 1) * 1000000))); omega) (by have := Sp.qn_bd (Sp.fx sc (-((px + 1) * 1000000))); omega) (by have := Sp.qd_bd (Sp.fx sc (-((px + 1) * 1000000))); omega) (by have := Sp.qd_bd (Sp.fx sc (-((px + 1) * 1000000))); omega); rw [(Sp.rv_fit (q := (Sp.fx sc (-((px + 1) * 1000000)))) (Sp.fx_fit (D := sc) (n := (-((px + 1) * 1000000))) (by omega) (by omega) (by omega) (by omega)))] at h; exact h); rw [Sp.fx_floor (D := sc) (by omega) (-((px + 1) * 1000000))] at h; exact h))) <|
                      .p (does_i (Sp.bwh px sc) ((show (IntKind.wrap .i64 (0 - ((-((px + 1) * 1000000)) / sc))) = (Sp.bwh px sc) from (by show IntKind.wrap .i64 _ = _; rw [wrap_i64 (by unfold Sp.bwh at wb; omega) (by unfold Sp.bwh at wb; omega), Int.zero_sub]; rfl))) .i64) <| .a 2 7 <| .nil _ _) ?_
                    refine aw_sq 510 511 ?_
                    refine aw_p 1021 (
                      .a 3 7 <| .p (does_b false (h8)) <| .a 4 7 <| .p (does_b false (h9)) <| .a 1 7 <| .nil _ _) ?_
                    refine aw_fl 2043 ?_
                    refine aw_sk ?_
                    refine then_normal ?_
                    refine aw_p 1023 (
                      .a 2 7 <| .p (does_c (rcosine_ok slat (by omega) (by omega))) <| .a 2 7 <| .nil _ _) ?_
                    refine aw_p 2047 (
                      .a 1 8 <| .nil _ _) ?_
                    refine aw_sq 4094 4095 ?_
                    refine aw_p 8189 (
                      .a 5 8 <| .nil _ _) ?_
                    refine aw_bl 0 16379 ?_
                    refine aw_lp 32759 ?_
                    refine al_round ?_
                    refine aw_p 65519 (
                      .a 1 9 <| .nil _ _) ?_
                    refine aw_sq 131038 131039 ?_
                    refine aw_tr 262076 ?_
                    refine aw_sk ?_
                    refine then_normal ?_
                    refine aw_sq 262078 262079 ?_
                    refine aw_bl 1 524157 ?_
                    refine aw_p 1048315 (
                      .a 3 9 <| .nil _ _) ?_
                    refine aw_p 2096631 (
                      .a 7 9 <| .nil _ _) ?_
                    refine aw_bl 2 4193263 ?_
                    refine aw_lp 8386527 ?_
                    refine al_round ?_
                    refine aw_p 16773055 (
                      .a 1 10 <| .nil _ _) ?_
                    refine aw_sq 33546110 33546111 ?_
                    refine aw_tr 67092220 ?_
                    refine aw_sk ?_
                    refine then_normal ?_
                    refine aw_sq 67092222 67092223 ?_
                    refine aw_bl 3 134184445 ?_
                    refine aw_p 268368891 (
                      .a 3 10 <| .nil _ _) ?_
                    refine aw_p 536737783 (
                      .a 1 10 <| .p (does_c (llof_ok (Sp.bwl px sc) (by omega) (by omega))) <| .p (does_c (llof_ok 268435456 (by decide) (by decide))) <| .p (does_c (ltimes_ok (Sp.bwl px sc) 268435456)) <| .a 1 10 <| .p (does_c (llof_ok ((Sp.cs slat 5).1) (by omega) (by omega))) <|
                      .p (does_c ((by have h := rratio_ok ((Sp.bwl px sc) * 268435456) ((Sp.cs slat 5).1) (by omega) (by omega) (by omega) (by omega); rw [(Sp.dv_yes (a := (((Sp.bwl px sc) * 268435456 : Int) : Rat)) (b := (((Sp.cs slat 5).1 : Int) : Rat)) (Sp.ne_rat (d := (Sp.cs slat 5).1) (by omega))).1, (Sp.dv_yes (a := (((Sp.bwl px sc) * 268435456 : Int) : Rat)) (b := (((Sp.cs slat 5).1 : Int) : Rat)) (Sp.ne_rat (d := (Sp.cs slat 5).1) (by omega))).2.1, (Sp.dv_yes (a := (((Sp.bwl px sc) * 268435456 : Int) : Rat)) (b := (((Sp.cs slat 5).1 : Int) : Rat)) (Sp.ne_rat (d := (Sp.cs slat 5).1) (by omega))).2.2, Sp.qe_fit (q := (((Sp.bwl px sc) * 268435456 : Int) : Rat) / (((Sp.cs slat 5).1 : Int) : Rat)) (Sp.fx_fit (D := ((Sp.cs slat 5).1)) (n := ((Sp.bwl px sc) * 268435456)) (by omega) (by omega) (by omega) (by omega))] at h; exact h))) <|
                      .a 6 10 <| .nil _ _) ?_
                    refine aw_d1 (
                      .a 2 11 <|
                      .p (does_c ((by have h := (by have h := rdown_ok (Sp.qn (Sp.fx ((Sp.cs slat 5).1) ((Sp.bwl px sc) * 268435456))) (Sp.qd (Sp.fx ((Sp.cs slat 5).1) ((Sp.bwl px sc) * 268435456))) (by have := Sp.qn_bd (Sp.fx ((Sp.cs slat 5).1) ((Sp.bwl px sc) * 268435456)); omega) (by have := Sp.qn_bd (Sp.fx ((Sp.cs slat 5).1) ((Sp.bwl px sc) * 268435456)); omega) (by have := Sp.qd_bd (Sp.fx ((Sp.cs slat 5).1) ((Sp.bwl px sc) * 268435456)); omega) (by have := Sp.qd_bd (Sp.fx ((Sp.cs slat 5).1) ((Sp.bwl px sc) * 268435456)); omega); rw [(Sp.rv_fit (q := (Sp.fx ((Sp.cs slat 5).1) ((Sp.bwl px sc) * 268435456))) (Sp.fx_fit (D := ((Sp.cs slat 5).1)) (n := ((Sp.bwl px sc) * 268435456)) (by omega) (by omega) (by omega) (by omega)))] at h; exact h); rw [Sp.fx_floor (D := (Sp.cs slat 5).1) (by omega) ((Sp.bwl px sc) * 268435456)] at h; exact h))) <|
                      .a 1 11 <|
                      .p (does_c ((by have h := (by have h := ropp_ok (Sp.qn (Sp.fx ((Sp.cs slat 5).1) ((Sp.bwl px sc) * 268435456))) (Sp.qd (Sp.fx ((Sp.cs slat 5).1) ((Sp.bwl px sc) * 268435456))) (by have := Sp.qn_bd (Sp.fx ((Sp.cs slat 5).1) ((Sp.bwl px sc) * 268435456)); omega) (by have := Sp.qn_bd (Sp.fx ((Sp.cs slat 5).1) ((Sp.bwl px sc) * 268435456)); omega) (by have := Sp.qd_bd (Sp.fx ((Sp.cs slat 5).1) ((Sp.bwl px sc) * 268435456)); omega) (by have := Sp.qd_bd (Sp.fx ((Sp.cs slat 5).1) ((Sp.bwl px sc) * 268435456)); omega); rw [(Sp.rv_fit (q := (Sp.fx ((Sp.cs slat 5).1) ((Sp.bwl px sc) * 268435456))) (Sp.fx_fit (D := ((Sp.cs slat 5).1)) (n := ((Sp.bwl px sc) * 268435456)) (by omega) (by omega) (by omega) (by omega)))] at h; exact h); rw [Sp.fx_neg ((Sp.cs slat 5).1) ((Sp.bwl px sc) * 268435456)] at h; exact h))) <|
                      .p (does_c ((by have h := (by have h := rdown_ok (Sp.qn (Sp.fx ((Sp.cs slat 5).1) (-((Sp.bwl px sc) * 268435456)))) (Sp.qd (Sp.fx ((Sp.cs slat 5).1) (-((Sp.bwl px sc) * 268435456)))) (by have := Sp.qn_bd (Sp.fx ((Sp.cs slat 5).1) (-((Sp.bwl px sc) * 268435456))); omega) (by have := Sp.qn_bd (Sp.fx ((Sp.cs slat 5).1) (-((Sp.bwl px sc) * 268435456))); omega) (by have := Sp.qd_bd (Sp.fx ((Sp.cs slat 5).1) (-((Sp.bwl px sc) * 268435456))); omega) (by have := Sp.qd_bd (Sp.fx ((Sp.cs slat 5).1) (-((Sp.bwl px sc) * 268435456))); omega); rw [(Sp.rv_fit (q := (Sp.fx ((Sp.cs slat 5).1) (-((Sp.bwl px sc) * 268435456)))) (Sp.fx_fit (D := ((Sp.cs slat 5).1)) (n := (-((Sp.bwl px sc) * 268435456))) (by omega) (by omega) (by omega) (by omega)))] at h; exact h); rw [Sp.fx_floor (D := (Sp.cs slat 5).1) (by omega) (-((Sp.bwl px sc) * 268435456))] at h; exact h))) <|
                      .p (does_i (-(-((Sp.bwl px sc) * 268435456) / ((Sp.cs slat 5).1))) ((show (IntKind.wrap .i64 (0 - ((-((Sp.bwl px sc) * 268435456)) / ((Sp.cs slat 5).1)))) = (-(-((Sp.bwl px sc) * 268435456) / ((Sp.cs slat 5).1))) from (by show IntKind.wrap .i64 _ = _; rw [wrap_i64 (by omega) (by omega), Int.zero_sub]))) .i64) <|
                      .a 1 11 <| .p (does_ap 12) <| .a 1 13 <| .nil _ _) ?_
                    refine block_normal ?_
                    refine then_normal ?_
                    refine aw_p1 (
                      .a 2 13 <| .nil _ _) ?_
                    refine then_normal ?_
                    refine al_round ?_
                    refine aw_p 16773055 (
                      .a 1 13 <| .nil _ _) ?_
                    refine aw_sq 33546110 33546111 ?_
                    refine aw_tr 67092220 ?_
                    refine aw_sk ?_
                    refine then_normal ?_
                    refine aw_sq 67092222 67092223 ?_
                    refine aw_bl 3 134184445 ?_
                    refine aw_p 268368891 (
                      .a 3 13 <| .nil _ _) ?_
                    refine aw_p 536737783 (
                      .a 1 13 <| .p (does_c (llof_ok (Sp.bwl px sc) (by omega) (by omega))) <| .p (does_c (llof_ok 268435456 (by decide) (by decide))) <| .p (does_c (ltimes_ok (Sp.bwl px sc) 268435456)) <| .a 1 13 <| .p (does_c (llof_ok ((Sp.cs slat 5).2) (by omega) (by omega))) <|
                      .p (does_c ((by have h := rratio_ok ((Sp.bwl px sc) * 268435456) ((Sp.cs slat 5).2) (by omega) (by omega) (by omega) (by omega); rw [(Sp.dv_yes (a := (((Sp.bwl px sc) * 268435456 : Int) : Rat)) (b := (((Sp.cs slat 5).2 : Int) : Rat)) (Sp.ne_rat (d := (Sp.cs slat 5).2) (by omega))).1, (Sp.dv_yes (a := (((Sp.bwl px sc) * 268435456 : Int) : Rat)) (b := (((Sp.cs slat 5).2 : Int) : Rat)) (Sp.ne_rat (d := (Sp.cs slat 5).2) (by omega))).2.1, (Sp.dv_yes (a := (((Sp.bwl px sc) * 268435456 : Int) : Rat)) (b := (((Sp.cs slat 5).2 : Int) : Rat)) (Sp.ne_rat (d := (Sp.cs slat 5).2) (by omega))).2.2, Sp.qe_fit (q := (((Sp.bwl px sc) * 268435456 : Int) : Rat) / (((Sp.cs slat 5).2 : Int) : Rat)) (Sp.fx_fit (D := ((Sp.cs slat 5).2)) (n := ((Sp.bwl px sc) * 268435456)) (by omega) (by omega) (by omega) (by omega))] at h; exact h))) <|
                      .a 6 13 <| .nil _ _) ?_
                    refine aw_d1 (
                      .a 2 14 <|
                      .p (does_c ((by have h := (by have h := rdown_ok (Sp.qn (Sp.fx ((Sp.cs slat 5).2) ((Sp.bwl px sc) * 268435456))) (Sp.qd (Sp.fx ((Sp.cs slat 5).2) ((Sp.bwl px sc) * 268435456))) (by have := Sp.qn_bd (Sp.fx ((Sp.cs slat 5).2) ((Sp.bwl px sc) * 268435456)); omega) (by have := Sp.qn_bd (Sp.fx ((Sp.cs slat 5).2) ((Sp.bwl px sc) * 268435456)); omega) (by have := Sp.qd_bd (Sp.fx ((Sp.cs slat 5).2) ((Sp.bwl px sc) * 268435456)); omega) (by have := Sp.qd_bd (Sp.fx ((Sp.cs slat 5).2) ((Sp.bwl px sc) * 268435456)); omega); rw [(Sp.rv_fit (q := (Sp.fx ((Sp.cs slat 5).2) ((Sp.bwl px sc) * 268435456))) (Sp.fx_fit (D := ((Sp.cs slat 5).2)) (n := ((Sp.bwl px sc) * 268435456)) (by omega) (by omega) (by omega) (by omega)))] at h; exact h); rw [Sp.fx_floor (D := (Sp.cs slat 5).2) (by omega) ((Sp.bwl px sc) * 268435456)] at h; exact h))) <|
                      .a 1 14 <|
                      .p (does_c ((by have h := (by have h := ropp_ok (Sp.qn (Sp.fx ((Sp.cs slat 5).2) ((Sp.bwl px sc) * 268435456))) (Sp.qd (Sp.fx ((Sp.cs slat 5).2) ((Sp.bwl px sc) * 268435456))) (by have := Sp.qn_bd (Sp.fx ((Sp.cs slat 5).2) ((Sp.bwl px sc) * 268435456)); omega) (by have := Sp.qn_bd (Sp.fx ((Sp.cs slat 5).2) ((Sp.bwl px sc) * 268435456)); omega) (by have := Sp.qd_bd (Sp.fx ((Sp.cs slat 5).2) ((Sp.bwl px sc) * 268435456)); omega) (by have := Sp.qd_bd (Sp.fx ((Sp.cs slat 5).2) ((Sp.bwl px sc) * 268435456)); omega); rw [(Sp.rv_fit (q := (Sp.fx ((Sp.cs slat 5).2) ((Sp.bwl px sc) * 268435456))) (Sp.fx_fit (D := ((Sp.cs slat 5).2)) (n := ((Sp.bwl px sc) * 268435456)) (by omega) (by omega) (by omega) (by omega)))] at h; exact h); rw [Sp.fx_neg ((Sp.cs slat 5).2) ((Sp.bwl px sc) * 268435456)] at h; exact h))) <|
                      .p (does_c ((by have h := (by have h := rdown_ok (Sp.qn (Sp.fx ((Sp.cs slat 5).2) (-((Sp.bwl px sc) * 268435456)))) (Sp.qd (Sp.fx ((Sp.cs slat 5).2) (-((Sp.bwl px sc) * 268435456)))) (by have := Sp.qn_bd (Sp.fx ((Sp.cs slat 5).2) (-((Sp.bwl px sc) * 268435456))); omega) (by have := Sp.qn_bd (Sp.fx ((Sp.cs slat 5).2) (-((Sp.bwl px sc) * 268435456))); omega) (by have := Sp.qd_bd (Sp.fx ((Sp.cs slat 5).2) (-((Sp.bwl px sc) * 268435456))); omega) (by have := Sp.qd_bd (Sp.fx ((Sp.cs slat 5).2) (-((Sp.bwl px sc) * 268435456))); omega); rw [(Sp.rv_fit (q := (Sp.fx ((Sp.cs slat 5).2) (-((Sp.bwl px sc) * 268435456)))) (Sp.fx_fit (D := ((Sp.cs slat 5).2)) (n := (-((Sp.bwl px sc) * 268435456))) (by omega) (by omega) (by omega) (by omega)))] at h; exact h); rw [Sp.fx_floor (D := (Sp.cs slat 5).2) (by omega) (-((Sp.bwl px sc) * 268435456))] at h; exact h))) <|
                      .p (does_i (-(-((Sp.bwl px sc) * 268435456) / ((Sp.cs slat 5).2))) ((show (IntKind.wrap .i64 (0 - ((-((Sp.bwl px sc) * 268435456)) / ((Sp.cs slat 5).2)))) = (-(-((Sp.bwl px sc) * 268435456) / ((Sp.cs slat 5).2))) from (by show IntKind.wrap .i64 _ = _; rw [wrap_i64 (by omega) (by omega), Int.zero_sub]))) .i64) <|
                      .a 1 14 <| .p (does_ap 15) <| .a 1 16 <| .nil _ _) ?_
                    refine block_normal ?_
                    refine then_normal ?_
                    refine aw_p1 (
                      .a 2 16 <| .nil _ _) ?_
                    refine then_normal ?_
                    refine al_round ?_
                    refine aw_p 16773055 (
                      .a 1 16 <| .nil _ _) ?_
                    refine aw_sq 33546110 33546111 ?_
                    refine aw_fl 67092221 ?_
                    refine aw_ex 2 ?_
                    refine then_exit ?_
                    refine then_exit ?_
                    refine block_exit ?_
                    refine block_normal ?_
                    refine then_normal ?_
                    refine aw_p1 (
                      .a 2 16 <| .nil _ _) ?_
                    refine then_normal ?_
                    refine al_round ?_
                    refine aw_p 65519 (
                      .a 1 16 <| .nil _ _) ?_
                    refine aw_sq 131038 131039 ?_
                    refine aw_tr 262076 ?_
                    refine aw_sk ?_
                    refine then_normal ?_
                    refine aw_sq 262078 262079 ?_
                    refine aw_bl 1 524157 ?_
                    refine aw_p 1048315 (
                      .a 3 16 <| .nil _ _) ?_
                    refine aw_p 2096631 (
                      .a 7 16 <| .nil _ _) ?_
                    refine aw_bl 2 4193263 ?_
                    refine aw_lp 8386527 ?_
                    refine al_round ?_
                    refine aw_p 16773055 (
                      .a 1 17 <| .nil _ _) ?_
                    refine aw_sq 33546110 33546111 ?_
                    refine aw_tr 67092220 ?_
                    refine aw_sk ?_
                    refine then_normal ?_
                    refine aw_sq 67092222 67092223 ?_
                    refine aw_bl 3 134184445 ?_
                    refine aw_p 268368891 (
                      .a 3 17 <| .nil _ _) ?_
                    refine aw_p 536737783 (
                      .a 1 17 <| .p (does_c (llof_ok (Sp.bwh px sc) (by omega) (by omega))) <| .p (does_c (llof_ok 268435456 (by decide) (by decide))) <| .p (does_c (ltimes_ok (Sp.bwh px sc) 268435456)) <| .a 1 17 <| .p (does_c (llof_ok ((Sp.cs slat 5).1) (by omega) (by omega))) <|
                      .p (does_c ((by have h := rratio_ok ((Sp.bwh px sc) * 268435456) ((Sp.cs slat 5).1) (by omega) (by omega) (by omega) (by omega); rw [(Sp.dv_yes (a := (((Sp.bwh px sc) * 268435456 : Int) : Rat)) (b := (((Sp.cs slat 5).1 : Int) : Rat)) (Sp.ne_rat (d := (Sp.cs slat 5).1) (by omega))).1, (Sp.dv_yes (a := (((Sp.bwh px sc) * 268435456 : Int) : Rat)) (b := (((Sp.cs slat 5).1 : Int) : Rat)) (Sp.ne_rat (d := (Sp.cs slat 5).1) (by omega))).2.1, (Sp.dv_yes (a := (((Sp.bwh px sc) * 268435456 : Int) : Rat)) (b := (((Sp.cs slat 5).1 : Int) : Rat)) (Sp.ne_rat (d := (Sp.cs slat 5).1) (by omega))).2.2, Sp.qe_fit (q := (((Sp.bwh px sc) * 268435456 : Int) : Rat) / (((Sp.cs slat 5).1 : Int) : Rat)) (Sp.fx_fit (D := ((Sp.cs slat 5).1)) (n := ((Sp.bwh px sc) * 268435456)) (by omega) (by omega) (by omega) (by omega))] at h; exact h))) <|
                      .a 6 17 <| .nil _ _) ?_
                    refine aw_d1 (
                      .a 2 18 <|
                      .p (does_c ((by have h := (by have h := rdown_ok (Sp.qn (Sp.fx ((Sp.cs slat 5).1) ((Sp.bwh px sc) * 268435456))) (Sp.qd (Sp.fx ((Sp.cs slat 5).1) ((Sp.bwh px sc) * 268435456))) (by have := Sp.qn_bd (Sp.fx ((Sp.cs slat 5).1) ((Sp.bwh px sc) * 268435456)); omega) (by have := Sp.qn_bd (Sp.fx ((Sp.cs slat 5).1) ((Sp.bwh px sc) * 268435456)); omega) (by have := Sp.qd_bd (Sp.fx ((Sp.cs slat 5).1) ((Sp.bwh px sc) * 268435456)); omega) (by have := Sp.qd_bd (Sp.fx ((Sp.cs slat 5).1) ((Sp.bwh px sc) * 268435456)); omega); rw [(Sp.rv_fit (q := (Sp.fx ((Sp.cs slat 5).1) ((Sp.bwh px sc) * 268435456))) (Sp.fx_fit (D := ((Sp.cs slat 5).1)) (n := ((Sp.bwh px sc) * 268435456)) (by omega) (by omega) (by omega) (by omega)))] at h; exact h); rw [Sp.fx_floor (D := (Sp.cs slat 5).1) (by omega) ((Sp.bwh px sc) * 268435456)] at h; exact h))) <|
                      .a 1 18 <|
                      .p (does_c ((by have h := (by have h := ropp_ok (Sp.qn (Sp.fx ((Sp.cs slat 5).1) ((Sp.bwh px sc) * 268435456))) (Sp.qd (Sp.fx ((Sp.cs slat 5).1) ((Sp.bwh px sc) * 268435456))) (by have := Sp.qn_bd (Sp.fx ((Sp.cs slat 5).1) ((Sp.bwh px sc) * 268435456)); omega) (by have := Sp.qn_bd (Sp.fx ((Sp.cs slat 5).1) ((Sp.bwh px sc) * 268435456)); omega) (by have := Sp.qd_bd (Sp.fx ((Sp.cs slat 5).1) ((Sp.bwh px sc) * 268435456)); omega) (by have := Sp.qd_bd (Sp.fx ((Sp.cs slat 5).1) ((Sp.bwh px sc) * 268435456)); omega); rw [(Sp.rv_fit (q := (Sp.fx ((Sp.cs slat 5).1) ((Sp.bwh px sc) * 268435456))) (Sp.fx_fit (D := ((Sp.cs slat 5).1)) (n := ((Sp.bwh px sc) * 268435456)) (by omega) (by omega) (by omega) (by omega)))] at h; exact h); rw [Sp.fx_neg ((Sp.cs slat 5).1) ((Sp.bwh px sc) * 268435456)] at h; exact h))) <|
                      .p (does_c ((by have h := (by have h := rdown_ok (Sp.qn (Sp.fx ((Sp.cs slat 5).1) (-((Sp.bwh px sc) * 268435456)))) (Sp.qd (Sp.fx ((Sp.cs slat 5).1) (-((Sp.bwh px sc) * 268435456)))) (by have := Sp.qn_bd (Sp.fx ((Sp.cs slat 5).1) (-((Sp.bwh px sc) * 268435456))); omega) (by have := Sp.qn_bd (Sp.fx ((Sp.cs slat 5).1) (-((Sp.bwh px sc) * 268435456))); omega) (by have := Sp.qd_bd (Sp.fx ((Sp.cs slat 5).1) (-((Sp.bwh px sc) * 268435456))); omega) (by have := Sp.qd_bd (Sp.fx ((Sp.cs slat 5).1) (-((Sp.bwh px sc) * 268435456))); omega); rw [(Sp.rv_fit (q := (Sp.fx ((Sp.cs slat 5).1) (-((Sp.bwh px sc) * 268435456)))) (Sp.fx_fit (D := ((Sp.cs slat 5).1)) (n := (-((Sp.bwh px sc) * 268435456))) (by omega) (by omega) (by omega) (by omega)))] at h; exact h); rw [Sp.fx_floor (D := (Sp.cs slat 5).1) (by omega) (-((Sp.bwh px sc) * 268435456))] at h; exact h))) <|
                      .p (does_i (-(-((Sp.bwh px sc) * 268435456) / ((Sp.cs slat 5).1))) ((show (IntKind.wrap .i64 (0 - ((-((Sp.bwh px sc) * 268435456)) / ((Sp.cs slat 5).1)))) = (-(-((Sp.bwh px sc) * 268435456) / ((Sp.cs slat 5).1))) from (by show IntKind.wrap .i64 _ = _; rw [wrap_i64 (by omega) (by omega), Int.zero_sub]))) .i64) <|
                      .a 1 18 <| .p (does_ap 19) <| .a 1 20 <| .nil _ _) ?_
                    refine block_normal ?_
                    refine then_normal ?_
                    refine aw_p1 (
                      .a 2 20 <| .nil _ _) ?_
                    refine then_normal ?_
                    refine al_round ?_
                    refine aw_p 16773055 (
                      .a 1 20 <| .nil _ _) ?_
                    refine aw_sq 33546110 33546111 ?_
                    refine aw_tr 67092220 ?_
                    refine aw_sk ?_
                    refine then_normal ?_
                    refine aw_sq 67092222 67092223 ?_
                    refine aw_bl 3 134184445 ?_
                    refine aw_p 268368891 (
                      .a 3 20 <| .nil _ _) ?_
                    refine aw_p 536737783 (
                      .a 1 20 <| .p (does_c (llof_ok (Sp.bwh px sc) (by omega) (by omega))) <| .p (does_c (llof_ok 268435456 (by decide) (by decide))) <| .p (does_c (ltimes_ok (Sp.bwh px sc) 268435456)) <| .a 1 20 <| .p (does_c (llof_ok ((Sp.cs slat 5).2) (by omega) (by omega))) <|
                      .p (does_c ((by have h := rratio_ok ((Sp.bwh px sc) * 268435456) ((Sp.cs slat 5).2) (by omega) (by omega) (by omega) (by omega); rw [(Sp.dv_yes (a := (((Sp.bwh px sc) * 268435456 : Int) : Rat)) (b := (((Sp.cs slat 5).2 : Int) : Rat)) (Sp.ne_rat (d := (Sp.cs slat 5).2) (by omega))).1, (Sp.dv_yes (a := (((Sp.bwh px sc) * 268435456 : Int) : Rat)) (b := (((Sp.cs slat 5).2 : Int) : Rat)) (Sp.ne_rat (d := (Sp.cs slat 5).2) (by omega))).2.1, (Sp.dv_yes (a := (((Sp.bwh px sc) * 268435456 : Int) : Rat)) (b := (((Sp.cs slat 5).2 : Int) : Rat)) (Sp.ne_rat (d := (Sp.cs slat 5).2) (by omega))).2.2, Sp.qe_fit (q := (((Sp.bwh px sc) * 268435456 : Int) : Rat) / (((Sp.cs slat 5).2 : Int) : Rat)) (Sp.fx_fit (D := ((Sp.cs slat 5).2)) (n := ((Sp.bwh px sc) * 268435456)) (by omega) (by omega) (by omega) (by omega))] at h; exact h))) <|
                      .a 6 20 <| .nil _ _) ?_
                    refine aw_d1 (
                      .a 2 21 <|
                      .p (does_c ((by have h := (by have h := rdown_ok (Sp.qn (Sp.fx ((Sp.cs slat 5).2) ((Sp.bwh px sc) * 268435456))) (Sp.qd (Sp.fx ((Sp.cs slat 5).2) ((Sp.bwh px sc) * 268435456))) (by have := Sp.qn_bd (Sp.fx ((Sp.cs slat 5).2) ((Sp.bwh px sc) * 268435456)); omega) (by have := Sp.qn_bd (Sp.fx ((Sp.cs slat 5).2) ((Sp.bwh px sc) * 268435456)); omega) (by have := Sp.qd_bd (Sp.fx ((Sp.cs slat 5).2) ((Sp.bwh px sc) * 268435456)); omega) (by have := Sp.qd_bd (Sp.fx ((Sp.cs slat 5).2) ((Sp.bwh px sc) * 268435456)); omega); rw [(Sp.rv_fit (q := (Sp.fx ((Sp.cs slat 5).2) ((Sp.bwh px sc) * 268435456))) (Sp.fx_fit (D := ((Sp.cs slat 5).2)) (n := ((Sp.bwh px sc) * 268435456)) (by omega) (by omega) (by omega) (by omega)))] at h; exact h); rw [Sp.fx_floor (D := (Sp.cs slat 5).2) (by omega) ((Sp.bwh px sc) * 268435456)] at h; exact h))) <|
                      .a 1 21 <|
                      .p (does_c ((by have h := (by have h := ropp_ok (Sp.qn (Sp.fx ((Sp.cs slat 5).2) ((Sp.bwh px sc) * 268435456))) (Sp.qd (Sp.fx ((Sp.cs slat 5).2) ((Sp.bwh px sc) * 268435456))) (by have := Sp.qn_bd (Sp.fx ((Sp.cs slat 5).2) ((Sp.bwh px sc) * 268435456)); omega) (by have := Sp.qn_bd (Sp.fx ((Sp.cs slat 5).2) ((Sp.bwh px sc) * 268435456)); omega) (by have := Sp.qd_bd (Sp.fx ((Sp.cs slat 5).2) ((Sp.bwh px sc) * 268435456)); omega) (by have := Sp.qd_bd (Sp.fx ((Sp.cs slat 5).2) ((Sp.bwh px sc) * 268435456)); omega); rw [(Sp.rv_fit (q := (Sp.fx ((Sp.cs slat 5).2) ((Sp.bwh px sc) * 268435456))) (Sp.fx_fit (D := ((Sp.cs slat 5).2)) (n := ((Sp.bwh px sc) * 268435456)) (by omega) (by omega) (by omega) (by omega)))] at h; exact h); rw [Sp.fx_neg ((Sp.cs slat 5).2) ((Sp.bwh px sc) * 268435456)] at h; exact h))) <|
                      .p (does_c ((by have h := (by have h := rdown_ok (Sp.qn (Sp.fx ((Sp.cs slat 5).2) (-((Sp.bwh px sc) * 268435456)))) (Sp.qd (Sp.fx ((Sp.cs slat 5).2) (-((Sp.bwh px sc) * 268435456)))) (by have := Sp.qn_bd (Sp.fx ((Sp.cs slat 5).2) (-((Sp.bwh px sc) * 268435456))); omega) (by have := Sp.qn_bd (Sp.fx ((Sp.cs slat 5).2) (-((Sp.bwh px sc) * 268435456))); omega) (by have := Sp.qd_bd (Sp.fx ((Sp.cs slat 5).2) (-((Sp.bwh px sc) * 268435456))); omega) (by have := Sp.qd_bd (Sp.fx ((Sp.cs slat 5).2) (-((Sp.bwh px sc) * 268435456))); omega); rw [(Sp.rv_fit (q := (Sp.fx ((Sp.cs slat 5).2) (-((Sp.bwh px sc) * 268435456)))) (Sp.fx_fit (D := ((Sp.cs slat 5).2)) (n := (-((Sp.bwh px sc) * 268435456))) (by omega) (by omega) (by omega) (by omega)))] at h; exact h); rw [Sp.fx_floor (D := (Sp.cs slat 5).2) (by omega) (-((Sp.bwh px sc) * 268435456))] at h; exact h))) <|
                      .p (does_i (-(-((Sp.bwh px sc) * 268435456) / ((Sp.cs slat 5).2))) ((show (IntKind.wrap .i64 (0 - ((-((Sp.bwh px sc) * 268435456)) / ((Sp.cs slat 5).2)))) = (-(-((Sp.bwh px sc) * 268435456) / ((Sp.cs slat 5).2))) from (by show IntKind.wrap .i64 _ = _; rw [wrap_i64 (by omega) (by omega), Int.zero_sub]))) .i64) <|
                      .a 1 21 <| .p (does_ap 22) <| .a 1 23 <| .nil _ _) ?_
                    refine block_normal ?_
                    refine then_normal ?_
                    refine aw_p1 (
                      .a 2 23 <| .nil _ _) ?_
                    refine then_normal ?_
                    refine al_round ?_
                    refine aw_p 16773055 (
                      .a 1 23 <| .nil _ _) ?_
                    refine aw_sq 33546110 33546111 ?_
                    refine aw_fl 67092221 ?_
                    refine aw_ex 2 ?_
                    refine then_exit ?_
                    refine then_exit ?_
                    refine block_exit ?_
                    refine block_normal ?_
                    refine then_normal ?_
                    refine aw_p1 (
                      .a 2 23 <| .nil _ _) ?_
                    refine then_normal ?_
                    refine al_round ?_
                    refine aw_p 65519 (
                      .a 1 23 <| .nil _ _) ?_
                    refine aw_sq 131038 131039 ?_
                    refine aw_fl 262077 ?_
                    refine aw_ex 0 ?_
                    refine then_exit ?_
                    refine then_exit ?_
                    refine block_exit ?_
                    refine then_normal ?_
                    refine aw_d 8191 (
                      .a 3 23 <|
                      .p (does_k [22] ((by have h := smin8_ok (((Sp.bwl px sc) * 268435456) / ((Sp.cs slat 5).1)) (-(-((Sp.bwl px sc) * 268435456) / ((Sp.cs slat 5).1))) (((Sp.bwl px sc) * 268435456) / ((Sp.cs slat 5).2)) (-(-((Sp.bwl px sc) * 268435456) / ((Sp.cs slat 5).2))) (((Sp.bwh px sc) * 268435456) / ((Sp.cs slat 5).1)) (-(-((Sp.bwh px sc) * 268435456) / ((Sp.cs slat 5).1))) (((Sp.bwh px sc) * 268435456) / ((Sp.cs slat 5).2)) (-(-((Sp.bwh px sc) * 268435456) / ((Sp.cs slat 5).2))); rw [ba.1] at h; exact h))) <|
                      .p (does_i (slon + (Sp.bkL ((Sp.cs slat 5).1) ((Sp.cs slat 5).2) (Sp.bwl px sc) (Sp.bwh px sc))) (wrap_i64 (by omega) (by omega)) .i64) <| .a 3 23 <|
                      .p (does_k [22] ((by have h := smax8_ok (((Sp.bwl px sc) * 268435456) / ((Sp.cs slat 5).1)) (-(-((Sp.bwl px sc) * 268435456) / ((Sp.cs slat 5).1))) (((Sp.bwl px sc) * 268435456) / ((Sp.cs slat 5).2)) (-(-((Sp.bwl px sc) * 268435456) / ((Sp.cs slat 5).2))) (((Sp.bwh px sc) * 268435456) / ((Sp.cs slat 5).1)) (-(-((Sp.bwh px sc) * 268435456) / ((Sp.cs slat 5).1))) (((Sp.bwh px sc) * 268435456) / ((Sp.cs slat 5).2)) (-(-((Sp.bwh px sc) * 268435456) / ((Sp.cs slat 5).2))); rw [ba.2] at h; exact h))) <|
                      .p (does_i (slon + (Sp.bkH ((Sp.cs slat 5).1) ((Sp.cs slat 5).2) (Sp.bwl px sc) (Sp.bwh px sc))) (wrap_i64 (by omega) (by omega)) .i64) <| .a 1 23 <|
                      .p (does_c (fixed_ok (slon + (Sp.bkL ((Sp.cs slat 5).1) ((Sp.cs slat 5).2) (Sp.bwl px sc) (Sp.bwh px sc))) (slon + (Sp.bkH ((Sp.cs slat 5).1) ((Sp.cs slat 5).2) (Sp.bwl px sc) (Sp.bwh px sc))) 1 (by omega) (by omega) (by omega) (by omega) (by decide) (by decide))) <| .a 2 23 <| .nil _ _) ?_
                    refine aw_d 16383 (
                      .a 4 24 <| .p (does_i (slat * sc) (wrap_i64 (by omega) (by omega)) .i64) <| .a 2 24 <| .p (does_i (py - 1) (wrap_i64 (by omega) (by omega)) .i64) <| .p (does_i ((py - 1) * 1000000) (wrap_i64 (by omega) (by omega)) .i64) <|
                      .p (does_i ((slat * sc) + ((py - 1) * 1000000)) (wrap_i64 (by omega) (by omega)) .i64) <| .p (does_c (llof_ok ((slat * sc) + ((py - 1) * 1000000)) (by omega) (by omega))) <| .a 2 24 <| .p (does_c (llof_ok sc (by omega) (by omega))) <|
                      .p (does_c ((by have h := rratio_ok ((slat * sc) + ((py - 1) * 1000000)) sc (by omega) (by omega) (by omega) (by omega); rw [(Sp.dv_yes (a := (((slat * sc) + ((py - 1) * 1000000) : Int) : Rat)) (b := ((sc : Int) : Rat)) (Sp.ne_rat (d := sc) (by omega))).1, (Sp.dv_yes (a := (((slat * sc) + ((py - 1) * 1000000) : Int) : Rat)) (b := ((sc : Int) : Rat)) (Sp.ne_rat (d := sc) (by omega))).2.1, (Sp.dv_yes (a := (((slat * sc) + ((py - 1) * 1000000) : Int) : Rat)) (b := ((sc : Int) : Rat)) (Sp.ne_rat (d := sc) (by omega))).2.2, Sp.qe_fit (q := (((slat * sc) + ((py - 1) * 1000000) : Int) : Rat) / ((sc : Int) : Rat)) (Sp.fx_fit (D := sc) (n := ((slat * sc) + ((py - 1) * 1000000))) (by omega) (by omega) (by omega) (by omega))] at h; exact h))) <|
                      .a 6 24 <| .nil _ _) ?_
                    refine aw_d 32767 (
                      .a 4 25 <| .p (does_i (slat * sc) (wrap_i64 (by omega) (by omega)) .i64) <| .a 2 25 <| .p (does_i (py + 1) (wrap_i64 (by omega) (by omega)) .i64) <| .p (does_i ((py + 1) * 1000000) (wrap_i64 (by omega) (by omega)) .i64) <|
                      .p (does_i ((slat * sc) + ((py + 1) * 1000000)) (wrap_i64 (by omega) (by omega)) .i64) <| .p (does_c (llof_ok ((slat * sc) + ((py + 1) * 1000000)) (by omega) (by omega))) <| .a 2 25 <| .p (does_c (llof_ok sc (by omega) (by omega))) <|
                      .p (does_c ((by have h := rratio_ok ((slat * sc) + ((py + 1) * 1000000)) sc (by omega) (by omega) (by omega) (by omega); rw [(Sp.dv_yes (a := (((slat * sc) + ((py + 1) * 1000000) : Int) : Rat)) (b := ((sc : Int) : Rat)) (Sp.ne_rat (d := sc) (by omega))).1, (Sp.dv_yes (a := (((slat * sc) + ((py + 1) * 1000000) : Int) : Rat)) (b := ((sc : Int) : Rat)) (Sp.ne_rat (d := sc) (by omega))).2.1, (Sp.dv_yes (a := (((slat * sc) + ((py + 1) * 1000000) : Int) : Rat)) (b := ((sc : Int) : Rat)) (Sp.ne_rat (d := sc) (by omega))).2.2, Sp.qe_fit (q := (((slat * sc) + ((py + 1) * 1000000) : Int) : Rat) / ((sc : Int) : Rat)) (Sp.fx_fit (D := sc) (n := ((slat * sc) + ((py + 1) * 1000000))) (by omega) (by omega) (by omega) (by omega))] at h; exact h))) <|
                      .a 6 25 <| .nil _ _) ?_
                    refine aw_p 65535 (
                      .a 5 26 <|
                      .p (does_e true ((show ((((Sp.qn (Sp.fx 1 (slon + Sp.bkL ((Sp.cs slat 5).1) ((Sp.cs slat 5).2) (Sp.bwl px sc) (Sp.bwh px sc)))) == (Sp.qn (Sp.fx 1 (slon + (Sp.bkL ((Sp.cs slat 5).1) ((Sp.cs slat 5).2) (Sp.bwl px sc) (Sp.bwh px sc)))))) && (((Sp.qd (Sp.fx 1 (slon + Sp.bkL ((Sp.cs slat 5).1) ((Sp.cs slat 5).2) (Sp.bwl px sc) (Sp.bwh px sc)))) == (Sp.qd (Sp.fx 1 (slon + (Sp.bkL ((Sp.cs slat 5).1) ((Sp.cs slat 5).2) (Sp.bwl px sc) (Sp.bwh px sc)))))) && true)) && ((((Sp.qn (Sp.fx 1 (slon + Sp.bkH ((Sp.cs slat 5).1) ((Sp.cs slat 5).2) (Sp.bwl px sc) (Sp.bwh px sc)))) == (Sp.qn (Sp.fx 1 (slon + (Sp.bkH ((Sp.cs slat 5).1) ((Sp.cs slat 5).2) (Sp.bwl px sc) (Sp.bwh px sc)))))) && (((Sp.qd (Sp.fx 1 (slon + Sp.bkH ((Sp.cs slat 5).1) ((Sp.cs slat 5).2) (Sp.bwl px sc) (Sp.bwh px sc)))) == (Sp.qd (Sp.fx 1 (slon + (Sp.bkH ((Sp.cs slat 5).1) ((Sp.cs slat 5).2) (Sp.bwl px sc) (Sp.bwh px sc)))))) && true)) && true)) = true from by simp))) <|
                      .a 6 26 <|
                      .p (does_e true ((show ((((Sp.qn (Sp.fx sc (slat * sc + (py - 1) * 1000000))) == (Sp.qn (Sp.fx sc ((slat * sc) + ((py - 1) * 1000000))))) && (((Sp.qd (Sp.fx sc (slat * sc + (py - 1) * 1000000))) == (Sp.qd (Sp.fx sc ((slat * sc) + ((py - 1) * 1000000))))) && true)) && ((((Sp.qn (Sp.fx sc (slat * sc + (py + 1) * 1000000))) == (Sp.qn (Sp.fx sc ((slat * sc) + ((py + 1) * 1000000))))) && (((Sp.qd (Sp.fx sc (slat * sc + (py + 1) * 1000000))) == (Sp.qd (Sp.fx sc ((slat * sc) + ((py + 1) * 1000000))))) && true)) && true)) = true from by simp))) <|
                      .a 2 26 <| .nil _ _) ?_
                    refine aw_rt ?_
                    exact en_ret [.bool true] (by kernel_rfl)
              · refine aw_p 15 (
                  .a 2 3 <| .p (does_c (back_no slat slon sc px py (.inr h7))) <| .a 9 3 <| .nil _ _) ?_
                refine aw_sq 30 31 ?_
                refine aw_p 61 (
                  .a 1 5 <| .p (does_c (pcheck_ok slat slon sc (by omega) (by omega) (by omega) (by omega) (by omega) (by omega))) <| .a 3 5 <| .p (does_cb _ (risvalid_ok px py) false (h7)) <| .a 2 5 <| .nil _ _) ?_
                refine aw_tr 122 ?_
                refine aw_p 245 (
                  .a 5 5 <| .p (does_e true ((show (((0 == 0) && ((0 == 0) && true)) && (((0 == 0) && ((0 == 0) && true)) && true)) = true from by decide))) <| .a 4 5 <| .p (does_e true ((show (((0 == 0) && ((0 == 0) && true)) && (((0 == 0) && ((0 == 0) && true)) && true)) = true from by decide))) <| .a 2 5 <| .nil _ _) ?_
                refine aw_rt ?_
                refine then_ret ?_
                exact en_ret [.bool true] (by kernel_rfl)


end Go.Proofs.Ytcokagabchjilaa.Am
