/-
  The walks of the way back.
-/
import Derived.Test.YtcokagabchjilaaProg
import Derived.Test.YtcokagabchjilaaAm16
import Derived.Test.YtcokagabchjilaaPr1
import Derived.Test.YtcokagabchjilaaPr3
import Derived.Test.YtcokagabchjilaaPt1
import Derived.Test.YtcokagabchjilaaPj3
namespace Go.Proofs.Ytcokagabchjilaa.Am
open Go Go.Proofs
set_option maxRecDepth 100000
set_option maxHeartbeats 4000000
set_option linter.unusedVariables false
set_option linter.unusedSimpArgs false

theorem paround_ok (u sc : Int) (u0 : -1048576 ≤ u) (u1 : u ≤ 1048576) (s0 : 1 ≤ sc) (s1 : sc ≤ 10000) :
    AC Try.prog 77 0 ([.int .i64 u, .int .i64 sc]) [] (.agg #[.int .i64 (Sp.qn (Sp.fx sc ((u - 1) * 1000000))), .int .i64 (Sp.qd (Sp.fx sc ((u - 1) * 1000000))), .int .i64 (Sp.qn (Sp.fx sc ((u + 1) * 1000000))), .int .i64 (Sp.qd (Sp.fx sc ((u + 1) * 1000000)))]) [] := by
  refine ac_in Try.func77 (fun w0 W pin => ?_)
  refine aw_p 3 (
    .a 1 1 <| .nil _ _) ?_
  refine aw_p 7 (
    .a 1 2 <| .p (does_i (u - 1) (wrap_i64 (by omega) (by omega)) .i64) <| .p (does_i ((u - 1) * 1000000) (wrap_i64 (by omega) (by omega)) .i64) <| .a 1 2 <| .p (does_c (pof_ok ((u - 1) * 1000000) sc (by omega) (by omega) (by omega) (by omega))) <|
    .p (does_pure (v := .agg #[.int .i64 (Sp.qn (Sp.fx sc ((u - 1) * 1000000))), .int .i64 (Sp.qd (Sp.fx sc ((u - 1) * 1000000)))]) (by kernel_rfl) (fun w => by kernel_rfl) (by kernel_rfl)) <| .a 1 2 <| .p (does_i (u + 1) (wrap_i64 (by omega) (by omega)) .i64) <|
    .p (does_i ((u + 1) * 1000000) (wrap_i64 (by omega) (by omega)) .i64) <| .a 1 2 <| .p (does_c (pof_ok ((u + 1) * 1000000) sc (by omega) (by omega) (by omega) (by omega))) <|
    .p (does_pure (v := .agg #[.int .i64 (Sp.qn (Sp.fx sc ((u + 1) * 1000000))), .int .i64 (Sp.qd (Sp.fx sc ((u + 1) * 1000000)))]) (by kernel_rfl) (fun w => by kernel_rfl) (by kernel_rfl)) <| .a 2 2 <| .nil _ _) ?_
  refine aw_rt ?_
  exact en_ret [.agg #[.int .i64 (Sp.qn (Sp.fx sc ((u - 1) * 1000000))), .int .i64 (Sp.qd (Sp.fx sc ((u - 1) * 1000000))), .int .i64 (Sp.qn (Sp.fx sc ((u + 1) * 1000000))), .int .i64 (Sp.qd (Sp.fx sc ((u + 1) * 1000000)))]] (by kernel_rfl)

theorem back_no (slat slon sc px py : Int) (h : (slat < -80000000 ∨ 80000000 < slat ∨ slon < -180000000 ∨ 180000000 < slon ∨ sc < 1 ∨ 10000 < sc) ∨ ((px == (Sp.lim 1048576 px)) && ((py == (Sp.lim 1048576 py)) && true)) = false) :
    AC Try.prog 37 0 ([.agg #[.int .i64 slat, .int .i64 slon, .int .i64 sc], .agg #[.int .i64 px, .int .i64 py]]) [] (.tuple #[.agg #[.int .i64 0, .int .i64 0, .int .i64 0, .int .i64 0], .agg #[.int .i64 0, .int .i64 0, .int .i64 0, .int .i64 0], .int .i64 1]) [] := by
  refine ac_in Try.func37 (fun w0 W pin => ?_)
  refine aw_p 3 (
    .a 5 1 <| .nil _ _) ?_
  refine aw_sq 6 7 ?_
  rcases Bool.eq_false_or_eq_true (decide (slat < (-80000000))) with h1 | h1
  · have h1p : ((slat < (-80000000))) := by first | (simpa using h1) | (have h1q := h1; simp at h1q; omega) | (have h1q := bx1 h1; simp at h1q; omega)
    refine aw_p 13 (
      .a 1 5 <| .p (does_c (pcheck_no slat slon sc (by omega))) <| .a 1 5 <| .nil _ _) ?_
    refine aw_p 27 (
      .a 2 5 <| .nil _ _) ?_
    refine aw_tr 54 ?_
    refine aw_p 109 (
      .a 6 5 <| .nil _ _) ?_
    refine aw_rt ?_
    refine then_ret ?_
    exact en_ret [.agg #[.int .i64 0, .int .i64 0, .int .i64 0, .int .i64 0], .agg #[.int .i64 0, .int .i64 0, .int .i64 0, .int .i64 0], .int .i64 1] (by kernel_rfl)
  · have h1p : ¬ ((slat < (-80000000))) := by first | (simpa using h1) | (have h1q := h1; simp at h1q; omega) | (have h1q := bx2 h1; simp at h1q; omega)
    rcases Bool.eq_false_or_eq_true (decide (slat > 80000000)) with h2 | h2
    · have h2p : ((slat > 80000000)) := by first | (simpa using h2) | (have h2q := h2; simp at h2q; omega) | (have h2q := bx1 h2; simp at h2q; omega)
      refine aw_p 13 (
        .a 1 5 <| .p (does_c (pcheck_no slat slon sc (by omega))) <| .a 1 5 <| .nil _ _) ?_
      refine aw_p 27 (
        .a 2 5 <| .nil _ _) ?_
      refine aw_tr 54 ?_
      refine aw_p 109 (
        .a 6 5 <| .nil _ _) ?_
      refine aw_rt ?_
      refine then_ret ?_
      exact en_ret [.agg #[.int .i64 0, .int .i64 0, .int .i64 0, .int .i64 0], .agg #[.int .i64 0, .int .i64 0, .int .i64 0, .int .i64 0], .int .i64 1] (by kernel_rfl)
    · have h2p : ¬ ((slat > 80000000)) := by first | (simpa using h2) | (have h2q := h2; simp at h2q; omega) | (have h2q := bx2 h2; simp at h2q; omega)
      rcases Bool.eq_false_or_eq_true (decide (slon < (-180000000))) with h3 | h3
      · have h3p : ((slon < (-180000000))) := by first | (simpa using h3) | (have h3q := h3; simp at h3q; omega) | (have h3q := bx1 h3; simp at h3q; omega)
        refine aw_p 13 (
          .a 1 5 <| .p (does_c (pcheck_no slat slon sc (by omega))) <| .a 1 5 <| .nil _ _) ?_
        refine aw_p 27 (
          .a 2 5 <| .nil _ _) ?_
        refine aw_tr 54 ?_
        refine aw_p 109 (
          .a 6 5 <| .nil _ _) ?_
        refine aw_rt ?_
        refine then_ret ?_
        exact en_ret [.agg #[.int .i64 0, .int .i64 0, .int .i64 0, .int .i64 0], .agg #[.int .i64 0, .int .i64 0, .int .i64 0, .int .i64 0], .int .i64 1] (by kernel_rfl)
      · have h3p : ¬ ((slon < (-180000000))) := by first | (simpa using h3) | (have h3q := h3; simp at h3q; omega) | (have h3q := bx2 h3; simp at h3q; omega)
        rcases Bool.eq_false_or_eq_true (decide (slon > 180000000)) with h4 | h4
        · have h4p : ((slon > 180000000)) := by first | (simpa using h4) | (have h4q := h4; simp at h4q; omega) | (have h4q := bx1 h4; simp at h4q; omega)
          refine aw_p 13 (
            .a 1 5 <| .p (does_c (pcheck_no slat slon sc (by omega))) <| .a 1 5 <| .nil _ _) ?_
          refine aw_p 27 (
            .a 2 5 <| .nil _ _) ?_
          refine aw_tr 54 ?_
          refine aw_p 109 (
            .a 6 5 <| .nil _ _) ?_
          refine aw_rt ?_
          refine then_ret ?_
          exact en_ret [.agg #[.int .i64 0, .int .i64 0, .int .i64 0, .int .i64 0], .agg #[.int .i64 0, .int .i64 0, .int .i64 0, .int .i64 0], .int .i64 1] (by kernel_rfl)
        · have h4p : ¬ ((slon > 180000000)) := by first | (simpa using h4) | (have h4q := h4; simp at h4q; omega) | (have h4q := bx2 h4; simp at h4q; omega)
          rcases Bool.eq_false_or_eq_true (decide (sc < 1)) with h5 | h5
          · have h5p : ((sc < 1)) := by first | (simpa using h5) | (have h5q := h5; simp at h5q; omega) | (have h5q := bx1 h5; simp at h5q; omega)
            refine aw_p 13 (
              .a 1 5 <| .p (does_c (pcheck_no slat slon sc (by omega))) <| .a 1 5 <| .nil _ _) ?_
            refine aw_p 27 (
              .a 2 5 <| .nil _ _) ?_
            refine aw_tr 54 ?_
            refine aw_p 109 (
              .a 6 5 <| .nil _ _) ?_
            refine aw_rt ?_
            refine then_ret ?_
            exact en_ret [.agg #[.int .i64 0, .int .i64 0, .int .i64 0, .int .i64 0], .agg #[.int .i64 0, .int .i64 0, .int .i64 0, .int .i64 0], .int .i64 1] (by kernel_rfl)
          · have h5p : ¬ ((sc < 1)) := by first | (simpa using h5) | (have h5q := h5; simp at h5q; omega) | (have h5q := bx2 h5; simp at h5q; omega)
            rcases Bool.eq_false_or_eq_true (decide (sc > 10000)) with h6 | h6
            · have h6p : ((sc > 10000)) := by first | (simpa using h6) | (have h6q := h6; simp at h6q; omega) | (have h6q := bx1 h6; simp at h6q; omega)
              refine aw_p 13 (
                .a 1 5 <| .p (does_c (pcheck_no slat slon sc (by omega))) <| .a 1 5 <| .nil _ _) ?_
              refine aw_p 27 (
                .a 2 5 <| .nil _ _) ?_
              refine aw_tr 54 ?_
              refine aw_p 109 (
                .a 6 5 <| .nil _ _) ?_
              refine aw_rt ?_
              refine then_ret ?_
              exact en_ret [.agg #[.int .i64 0, .int .i64 0, .int .i64 0, .int .i64 0], .agg #[.int .i64 0, .int .i64 0, .int .i64 0, .int .i64 0], .int .i64 1] (by kernel_rfl)
            · have h6p : ¬ ((sc > 10000)) := by first | (simpa using h6) | (have h6q := h6; simp at h6q; omega) | (have h6q := bx2 h6; simp at h6q; omega)
              refine aw_p 13 (
                .a 1 5 <| .p (does_c (pcheck_ok slat slon sc (by omega) (by omega) (by omega) (by omega) (by omega) (by omega))) <| .a 1 5 <| .nil _ _) ?_
              refine aw_p 27 (
                .a 2 5 <| .nil _ _) ?_
              refine aw_fl 55 ?_
              refine aw_sk ?_
              refine then_normal ?_
              refine aw_sq 14 15 ?_
              refine aw_p 29 (
                .a 1 5 <| .p (does_cb _ (pok_ok px py) false ((show ((px == (Sp.lim 1048576 px)) && ((py == (Sp.lim 1048576 py)) && true)) = false from (h.resolve_left (by omega))))) <| .a 1 5 <| .nil _ _) ?_
              refine aw_tr 58 ?_
              refine aw_p 117 (
                .a 5 5 <| .nil _ _) ?_
              refine aw_rt ?_
              refine then_ret ?_
              exact en_ret [.agg #[.int .i64 0, .int .i64 0, .int .i64 0, .int .i64 0], .agg #[.int .i64 0, .int .i64 0, .int .i64 0, .int .i64 0], .int .i64 1] (by kernel_rfl)

theorem back_far (slat slon sc px py : Int) (s0 : -80000000 ≤ slat) (s1 : slat ≤ 80000000) (s2 : -180000000 ≤ slon) (s3 : slon ≤ 180000000) (s4 : 1 ≤ sc) (s5 : sc ≤ 10000) (ok : ((px == (Sp.lim 1048576 px)) && ((py == (Sp.lim 1048576 py)) && true)) = true) (h : Sp.mn (Sp.bwl px sc) (Sp.bwh px sc) < -1073741824 ∨ Sp.mx (Sp.bwl px sc) (Sp.bwh px sc) > 1073741824) :
    AC Try.prog 37 0 ([.agg #[.int .i64 slat, .int .i64 slon, .int .i64 sc], .agg #[.int .i64 px, .int .i64 py]]) [] (.tuple #[.agg #[.int .i64 0, .int .i64 0, .int .i64 0, .int .i64 0], .agg #[.int .i64 0, .int .i64 0, .int .i64 0, .int .i64 0], .int .i64 17]) [] := by
  have ob := Sp.okb_bd (x := px) (y := py) ok; have wb := Sp.bw_bd (px := px) (sc := sc) (by omega) (by omega) s4; have wl := Sp.bw_le (px := px) s4
  refine ac_in Try.func37 (fun w0 W pin => ?_)
  refine aw_p 3 (
    .a 5 1 <| .nil _ _) ?_
  refine aw_sq 6 7 ?_
  refine aw_p 13 (
    .a 1 5 <| .p (does_c (pcheck_ok slat slon sc (by omega) (by omega) (by omega) (by omega) (by omega) (by omega))) <| .a 1 5 <| .nil _ _) ?_
  refine aw_p 27 (
    .a 2 5 <| .nil _ _) ?_
  refine aw_fl 55 ?_
  refine aw_sk ?_
  refine then_normal ?_
  refine aw_sq 14 15 ?_
  refine aw_p 29 (
    .a 1 5 <| .p (does_c ((by have q := pok_ok px py; rw [ok] at q; exact q))) <| .a 1 5 <| .nil _ _) ?_
  refine aw_fl 59 ?_
  refine aw_sk ?_
  refine then_normal ?_
  refine aw_p 31 (
    .a 4 5 <| .p (does_c (paround_ok px sc (by omega) (by omega) (by omega) (by omega))) <|
    .p (does_c ((by have h := (by have h := soutC_ok (Sp.qn (Sp.fx sc ((px - 1) * 1000000))) (Sp.qd (Sp.fx sc ((px - 1) * 1000000))) (by have := Sp.qn_bd (Sp.fx sc ((px - 1) * 1000000)); omega) (by have := Sp.qn_bd (Sp.fx sc ((px - 1) * 1000000)); omega) (by have := Sp.qd_bd (Sp.fx sc ((px - 1) * 1000000)); omega) (by have := Sp.qd_bd (Sp.fx sc ((px - 1) * 1000000)); omega) (Sp.qn (Sp.fx sc ((px + 1) * 1000000))) (Sp.qd (Sp.fx sc ((px + 1) * 1000000))) (by have := Sp.qn_bd (Sp.fx sc ((px + 1) * 1000000)); omega) (by have := Sp.qn_bd (Sp.fx sc ((px + 1) * 1000000)); omega) (by have := Sp.qd_bd (Sp.fx sc ((px + 1) * 1000000)); omega) (by have := Sp.qd_bd (Sp.fx sc ((px + 1) * 1000000)); omega) 1 (by decide) (by decide) (by omega) (by omega) (show Sp.fitq ((Sp.sl (Sp.qn (Sp.fx sc ((px - 1) * 1000000))) (Sp.qd (Sp.fx sc ((px - 1) * 1000000))) (Sp.qn (Sp.fx sc ((px + 1) * 1000000))) (Sp.qd (Sp.fx sc ((px + 1) * 1000000)))) * ((1 : Int) : Rat)) = true from (by rw [(Sp.sl_told (p := Sp.fx sc ((px - 1) * 1000000)) (q := Sp.fx sc ((px + 1) * 1000000)) (Sp.fx_fit (D := sc) (n := ((px - 1) * 1000000)) (by omega) (by omega) (by omega) (by omega)) (Sp.fx_fit (D := sc) (n := ((px + 1) * 1000000)) (by omega) (by omega) (by omega) (by omega)) ((Sp.fx_le (D := sc) (a := ((px - 1) * 1000000)) (b := ((px + 1) * 1000000)) (by omega)).2 (by omega))).1]; exact (Sp.fxy_fit (D := sc) (N := 1) (x := (px - 1) * 1000000) (by omega) (by omega) (by omega) (by omega)).1)) (show Sp.fitq ((-(Sp.sh (Sp.qn (Sp.fx sc ((px - 1) * 1000000))) (Sp.qd (Sp.fx sc ((px - 1) * 1000000))) (Sp.qn (Sp.fx sc ((px + 1) * 1000000))) (Sp.qd (Sp.fx sc ((px + 1) * 1000000))))) * ((1 : Int) : Rat)) = true from (by rw [(Sp.sl_told (p := Sp.fx sc ((px - 1) * 1000000)) (q := Sp.fx sc ((px + 1) * 1000000)) (Sp.fx_fit (D := sc) (n := ((px - 1) * 1000000)) (by omega) (by omega) (by omega) (by omega)) (Sp.fx_fit (D := sc) (n := ((px + 1) * 1000000)) (by omega) (by omega) (by omega) (by omega)) ((Sp.fx_le (D := sc) (a := ((px - 1) * 1000000)) (b := ((px + 1) * 1000000)) (by omega)).2 (by omega))).2]; exact (Sp.fxy_fit (D := sc) (N := 1) (x := (px + 1) * 1000000) (by omega) (by omega) (by omega) (by omega)).2)); rw [(Sp.sl_told (p := Sp.fx sc ((px - 1) * 1000000)) (q := Sp.fx sc ((px + 1) * 1000000)) (Sp.fx_fit (D := sc) (n := ((px - 1) * 1000000)) (by omega) (by omega) (by omega) (by omega)) (Sp.fx_fit (D := sc) (n := ((px + 1) * 1000000)) (by omega) (by omega) (by omega) (by omega)) ((Sp.fx_le (D := sc) (a := ((px - 1) * 1000000)) (b := ((px + 1) * 1000000)) (by omega)).2 (by omega))).1, (Sp.sl_told (p := Sp.fx sc ((px - 1) * 1000000)) (q := Sp.fx sc ((px + 1) * 1000000)) (Sp.fx_fit (D := sc) (n := ((px - 1) * 1000000)) (by omega) (by omega) (by omega) (by omega)) (Sp.fx_fit (D := sc) (n := ((px + 1) * 1000000)) (by omega) (by omega) (by omega) (by omega)) ((Sp.fx_le (D := sc) (a := ((px - 1) * 1000000)) (b := ((px + 1) * 1000000)) (by omega)).2 (by omega))).2, (Sp.dv_yes (a := ((Rat.floor ((Sp.fx sc ((px - 1) * 1000000)) * ((1 : Int) : Rat)) : Int) : Rat)) (Sp.cast_ne1 (n := 1) (by omega))).1, (Sp.dv_yes (a := ((Rat.floor ((Sp.fx sc ((px - 1) * 1000000)) * ((1 : Int) : Rat)) : Int) : Rat)) (Sp.cast_ne1 (n := 1) (by omega))).2.1, (Sp.dv_yes (a := ((-Rat.floor ((-(Sp.fx sc ((px + 1) * 1000000))) * ((1 : Int) : Rat)) : Int) : Rat)) (Sp.cast_ne1 (n := 1) (by omega))).1, (Sp.dv_yes (a := ((-Rat.floor ((-(Sp.fx sc ((px + 1) * 1000000))) * ((1 : Int) : Rat)) : Int) : Rat)) (Sp.cast_ne1 (n := 1) (by omega))).2.1] at h; exact h); rw [Sp.oL_fz (D := sc) (N := 1) (by omega) ((px - 1) * 1000000), Sp.oH_fz (D := sc) (N := 1) (by omega) ((px + 1) * 1000000), Int.mul_one, Int.mul_one] at h; exact h))) <|
    .a 6 5 <| .nil _ _) ?_
  refine aw_p 63 (
    .p (does_c (fof_ok 1073741824)) <| .a 2 6 <| .nil _ _) ?_
  refine aw_sq 126 127 ?_
  rcases Bool.eq_false_or_eq_true (decide (((1073741824 : Int) : Rat) < (Sp.rabs (Sp.fx 1 (Sp.bwl px sc))))) with h1 | h1
  · have h1p : ((((1073741824 : Int) : Rat) < (Sp.rabs (Sp.fx 1 (Sp.bwl px sc))))) := by first | (simpa using h1) | (have h1q := h1; simp at h1q; omega) | (have h1q := bx1 h1; simp at h1q; omega)
    refine aw_d 253 (
      .a 2 7 <|
      .p (does_c ((by have h := fabs_ok (Sp.qn (Sp.fx 1 (Sp.bwl px sc))) (Sp.qd (Sp.fx 1 (Sp.bwl px sc))) (by have := Sp.qn_bd (Sp.fx 1 (Sp.bwl px sc)); omega) (by have := Sp.qn_bd (Sp.fx 1 (Sp.bwl px sc)); omega) (by have := Sp.qd_bd (Sp.fx 1 (Sp.bwl px sc)); omega) (by have := Sp.qd_bd (Sp.fx 1 (Sp.bwl px sc)); omega); rw [(Sp.rv_fit (q := (Sp.fx 1 (Sp.bwl px sc))) (Sp.fx_fit (D := 1) (n := (Sp.bwl px sc)) (by decide) (by decide) (by omega) (by omega)))] at h; exact h))) <|
      .a 1 7 <|
      .p (does_c ((by have h := fcmp_ok (Sp.qn (Sp.rabs (Sp.fx 1 (Sp.bwl px sc)))) (Sp.qd (Sp.rabs (Sp.fx 1 (Sp.bwl px sc)))) (by have := Sp.qn_bd (Sp.rabs (Sp.fx 1 (Sp.bwl px sc))); omega) (by have := Sp.qn_bd (Sp.rabs (Sp.fx 1 (Sp.bwl px sc))); omega) (by have := Sp.qd_bd (Sp.rabs (Sp.fx 1 (Sp.bwl px sc))); omega) (by have := Sp.qd_bd (Sp.rabs (Sp.fx 1 (Sp.bwl px sc))); omega) 1073741824 1 (by decide) (by decide) (by decide) (by decide); rw [(Sp.rv_fit (q := (Sp.rabs (Sp.fx 1 (Sp.bwl px sc)))) (Sp.fitq_abs (Sp.fx_fit (D := 1) (n := (Sp.bwl px sc)) (by decide) (by decide) (by omega) (by omega)))), (Sp.rv_int 1073741824 (by decide))] at h; exact h))) <|
      .p (does_b true (((Sp.rcmp_pos (Sp.rabs (Sp.fx 1 (Sp.bwl px sc))) ((1073741824 : Int) : Rat))).trans (h1))) <| .a 8 7 <| .nil _ _) ?_
    refine aw_tr 506 ?_
    refine aw_p 1013 (
      .a 5 7 <| .nil _ _) ?_
    refine aw_rt ?_
    refine then_ret ?_
    exact en_ret [.agg #[.int .i64 0, .int .i64 0, .int .i64 0, .int .i64 0], .agg #[.int .i64 0, .int .i64 0, .int .i64 0, .int .i64 0], .int .i64 17] (by kernel_rfl)
  · have h1p : ¬ ((((1073741824 : Int) : Rat) < (Sp.rabs (Sp.fx 1 (Sp.bwl px sc))))) := by first | (simpa using h1) | (have h1q := h1; simp at h1q; omega) | (have h1q := bx2 h1; simp at h1q; omega)
    refine aw_d 253 (
      .a 2 7 <|
      .p (does_c ((by have h := fabs_ok (Sp.qn (Sp.fx 1 (Sp.bwl px sc))) (Sp.qd (Sp.fx 1 (Sp.bwl px sc))) (by have := Sp.qn_bd (Sp.fx 1 (Sp.bwl px sc)); omega) (by have := Sp.qn_bd (Sp.fx 1 (Sp.bwl px sc)); omega) (by have := Sp.qd_bd (Sp.fx 1 (Sp.bwl px sc)); omega) (by have := Sp.qd_bd (Sp.fx 1 (Sp.bwl px sc)); omega); rw [(Sp.rv_fit (q := (Sp.fx 1 (Sp.bwl px sc))) (Sp.fx_fit (D := 1) (n := (Sp.bwl px sc)) (by decide) (by decide) (by omega) (by omega)))] at h; exact h))) <|
      .a 1 7 <|
      .p (does_c ((by have h := fcmp_ok (Sp.qn (Sp.rabs (Sp.fx 1 (Sp.bwl px sc)))) (Sp.qd (Sp.rabs (Sp.fx 1 (Sp.bwl px sc)))) (by have := Sp.qn_bd (Sp.rabs (Sp.fx 1 (Sp.bwl px sc))); omega) (by have := Sp.qn_bd (Sp.rabs (Sp.fx 1 (Sp.bwl px sc))); omega) (by have := Sp.qd_bd (Sp.rabs (Sp.fx 1 (Sp.bwl px sc))); omega) (by have := Sp.qd_bd (Sp.rabs (Sp.fx 1 (Sp.bwl px sc))); omega) 1073741824 1 (by decide) (by decide) (by decide) (by decide); rw [(Sp.rv_fit (q := (Sp.rabs (Sp.fx 1 (Sp.bwl px sc)))) (Sp.fitq_abs (Sp.fx_fit (D := 1) (n := (Sp.bwl px sc)) (by decide) (by decide) (by omega) (by omega)))), (Sp.rv_int 1073741824 (by decide))] at h; exact h))) <|
      .p (does_b false (((Sp.rcmp_pos (Sp.rabs (Sp.fx 1 (Sp.bwl px sc))) ((1073741824 : Int) : Rat))).trans (h1))) <| .a 3 7 <|
      .p (does_c ((by have h := fabs_ok (Sp.qn (Sp.fx 1 (Sp.bwh px sc))) (Sp.qd (Sp.fx 1 (Sp.bwh px sc))) (by have := Sp.qn_bd (Sp.fx 1 (Sp.bwh px sc)); omega) (by have := Sp.qn_bd (Sp.fx 1 (Sp.bwh px sc)); omega) (by have := Sp.qd_bd (Sp.fx 1 (Sp.bwh px sc)); omega) (by have := Sp.qd_bd (Sp.fx 1 (Sp.bwh px sc)); omega); rw [(Sp.rv_fit (q := (Sp.fx 1 (Sp.bwh px sc))) (Sp.fx_fit (D := 1) (n := (Sp.bwh px sc)) (by decide) (by decide) (by omega) (by omega)))] at h; exact h))) <|
      .a 1 7 <|
      .p (does_c ((by have h := fcmp_ok (Sp.qn (Sp.rabs (Sp.fx 1 (Sp.bwh px sc)))) (Sp.qd (Sp.rabs (Sp.fx 1 (Sp.bwh px sc)))) (by have := Sp.qn_bd (Sp.rabs (Sp.fx 1 (Sp.bwh px sc))); omega) (by have := Sp.qn_bd (Sp.rabs (Sp.fx 1 (Sp.bwh px sc))); omega) (by have := Sp.qd_bd (Sp.rabs (Sp.fx 1 (Sp.bwh px sc))); omega) (by have := Sp.qd_bd (Sp.rabs (Sp.fx 1 (Sp.bwh px sc))); omega) 1073741824 1 (by decide) (by decide) (by decide) (by decide); rw [(Sp.rv_fit (q := (Sp.rabs (Sp.fx 1 (Sp.bwh px sc)))) (Sp.fitq_abs (Sp.fx_fit (D := 1) (n := (Sp.bwh px sc)) (by decide) (by decide) (by omega) (by omega)))), (Sp.rv_int 1073741824 (by decide))] at h; exact h))) <|
      .p (does_b true (((Sp.rcmp_pos (Sp.rabs (Sp.fx 1 (Sp.bwh px sc))) ((1073741824 : Int) : Rat))).trans ((show (decide (((1073741824 : Int) : Rat) < (Sp.rabs (Sp.fx 1 (Sp.bwh px sc))))) = true from (decide_eq_true (by have q := of_decide_eq_false h1; rw [Sp.far_iff] at *; unfold Sp.mn Sp.mx at *; (repeat' split at *) <;> omega)))))) <|
      .a 1 7 <| .nil _ _) ?_
    refine aw_tr 506 ?_
    refine aw_p 1013 (
      .a 5 7 <| .nil _ _) ?_
    refine aw_rt ?_
    refine then_ret ?_
    exact en_ret [.agg #[.int .i64 0, .int .i64 0, .int .i64 0, .int .i64 0], .agg #[.int .i64 0, .int .i64 0, .int .i64 0, .int .i64 0], .int .i64 17] (by kernel_rfl)

theorem back_ok (slat slon sc px py : Int) (s0 : -80000000 ≤ slat) (s1 : slat ≤ 80000000) (s2 : -180000000 ≤ slon) (s3 : slon ≤ 180000000) (s4 : 1 ≤ sc) (s5 : sc ≤ 10000) (ok : ((px == (Sp.lim 1048576 px)) && ((py == (Sp.lim 1048576 py)) && true)) = true) (h1 : ¬ Sp.mn (Sp.bwl px sc) (Sp.bwh px sc) < -1073741824) (h2 : ¬ Sp.mx (Sp.bwl px sc) (Sp.bwh px sc) > 1073741824) :
    AC Try.prog 37 0 ([.agg #[.int .i64 slat, .int .i64 slon, .int .i64 sc], .agg #[.int .i64 px, .int .i64 py]]) [] (.tuple #[.agg #[.int .i64 (Sp.qn (Sp.fx sc (slat * sc + (py - 1) * 1000000))), .int .i64 (Sp.qd (Sp.fx sc (slat * sc + (py - 1) * 1000000))), .int .i64 (Sp.qn (Sp.fx sc (slat * sc + (py + 1) * 1000000))), .int .i64 (Sp.qd (Sp.fx sc (slat * sc + (py + 1) * 1000000)))], .agg #[.int .i64 (Sp.qn (Sp.fx 1 (slon + Sp.bkL ((Sp.cs slat 5).1) ((Sp.cs slat 5).2) (Sp.bwl px sc) (Sp.bwh px sc)))), .int .i64 (Sp.qd (Sp.fx 1 (slon + Sp.bkL ((Sp.cs slat 5).1) ((Sp.cs slat 5).2) (Sp.bwl px sc) (Sp.bwh px sc)))), .int .i64 (Sp.qn (Sp.fx 1 (slon + Sp.bkH ((Sp.cs slat 5).1) ((Sp.cs slat 5).2) (Sp.bwl px sc) (Sp.bwh px sc)))), .int .i64 (Sp.qd (Sp.fx 1 (slon + Sp.bkH ((Sp.cs slat 5).1) ((Sp.cs slat 5).2) (Sp.bwl px sc) (Sp.bwh px sc))))], .int .i64 0]) [] := by
  have ob := Sp.okb_bd (x := px) (y := py) ok; have wb := Sp.bw_bd (px := px) (sc := sc) (by omega) (by omega) s4; have wl := Sp.bw_le (px := px) s4; have hn : (-1073741824 ≤ Sp.bwl px sc ∧ Sp.bwl px sc ≤ 1073741824) ∧ (-1073741824 ≤ Sp.bwh px sc ∧ Sp.bwh px sc ≤ 1073741824) := (by unfold Sp.mn at h1; unfold Sp.mx at h2; (repeat' split at *) <;> omega); have cu := Sp.cs_unit s0 s1 5 (by decide); unfold Sp.Unit1 at cu; have hc : 0 < (Sp.cs slat 5).1 := (by omega); have hd : 0 < (Sp.cs slat 5).2 := (by omega); have hz := Sp.c_zero (b := (Sp.cs slat 5).2) hc; have bo := Sp.bk_oL hc hd (Sp.bwl px sc) (Sp.bwh px sc); unfold Sp.oL Sp.oH at bo; have bb := Sp.bkLH_bd (c := (Sp.cs slat 5).1) (d := (Sp.cs slat 5).2) (l := Sp.bwl px sc) (h := Sp.bwh px sc) (by omega) (by omega) hn.1.1 hn.1.2 hn.2.1 hn.2.2; have bl := Sp.bkLH_le (l := Sp.bwl px sc) (h := Sp.bwh px sc) hc hd; have m1 := Sp.mul_bd (a := slat) (b := sc) (A := 80000000) (B := 10000) (by omega) (by omega) (by omega) (by omega)
  refine ac_in Try.func37 (fun w0 W pin => ?_)
  refine aw_p 3 (
    .a 5 1 <| .nil _ _) ?_
  refine aw_sq 6 7 ?_
  refine aw_p 13 (
    .a 1 5 <| .p (does_c (pcheck_ok slat slon sc (by omega) (by omega) (by omega) (by omega) (by omega) (by omega))) <| .a 1 5 <| .nil _ _) ?_
  refine aw_p 27 (
    .a 2 5 <| .nil _ _) ?_
  refine aw_fl 55 ?_
  refine aw_sk ?_
  refine then_normal ?_
  refine aw_sq 14 15 ?_
  refine aw_p 29 (
    .a 1 5 <| .p (does_c ((by have q := pok_ok px py; rw [ok] at q; exact q))) <| .a 1 5 <| .nil _ _) ?_
  refine aw_fl 59 ?_
  refine aw_sk ?_
  refine then_normal ?_
  refine aw_p 31 (
    .a 4 5 <| .p (does_c (paround_ok px sc (by omega) (by omega) (by omega) (by omega))) <|
    .p (does_c ((by have h := (by have h := soutC_ok (Sp.qn (Sp.fx sc ((px - 1) * 1000000))) (Sp.qd (Sp.fx sc ((px - 1) * 1000000))) (by have := Sp.qn_bd (Sp.fx sc ((px - 1) * 1000000)); omega) (by have := Sp.qn_bd (Sp.fx sc ((px - 1) * 1000000)); omega) (by have := Sp.qd_bd (Sp.fx sc ((px - 1) * 1000000)); omega) (by have := Sp.qd_bd (Sp.fx sc ((px - 1) * 1000000)); omega) (Sp.qn (Sp.fx sc ((px + 1) * 1000000))) (Sp.qd (Sp.fx sc ((px + 1) * 1000000))) (by have := Sp.qn_bd (Sp.fx sc ((px + 1) * 1000000)); omega) (by have := Sp.qn_bd (Sp.fx sc ((px + 1) * 1000000)); omega) (by have := Sp.qd_bd (Sp.fx sc ((px + 1) * 1000000)); omega) (by have := Sp.qd_bd (Sp.fx sc ((px + 1) * 1000000)); omega) 1 (by decide) (by decide) (by omega) (by omega) (show Sp.fitq ((Sp.sl (Sp.qn (Sp.fx sc ((px - 1) * 1000000))) (Sp.qd (Sp.fx sc ((px - 1) * 1000000))) (Sp.qn (Sp.fx sc ((px + 1) * 1000000))) (Sp.qd (Sp.fx sc ((px + 1) * 1000000)))) * ((1 : Int) : Rat)) = true from (by rw [(Sp.sl_told (p := Sp.fx sc ((px - 1) * 1000000)) (q := Sp.fx sc ((px + 1) * 1000000)) (Sp.fx_fit (D := sc) (n := ((px - 1) * 1000000)) (by omega) (by omega) (by omega) (by omega)) (Sp.fx_fit (D := sc) (n := ((px + 1) * 1000000)) (by omega) (by omega) (by omega) (by omega)) ((Sp.fx_le (D := sc) (a := ((px - 1) * 1000000)) (b := ((px + 1) * 1000000)) (by omega)).2 (by omega))).1]; exact (Sp.fxy_fit (D := sc) (N := 1) (x := (px - 1) * 1000000) (by omega) (by omega) (by omega) (by omega)).1)) (show Sp.fitq ((-(Sp.sh (Sp.qn (Sp.fx sc ((px - 1) * 1000000))) (Sp.qd (Sp.fx sc ((px - 1) * 1000000))) (Sp.qn (Sp.fx sc ((px + 1) * 1000000))) (Sp.qd (Sp.fx sc ((px + 1) * 1000000))))) * ((1 : Int) : Rat)) = true from (by rw [(Sp.sl_told (p := Sp.fx sc ((px - 1) * 1000000)) (q := Sp.fx sc ((px + 1) * 1000000)) (Sp.fx_fit (D := sc) (n := ((px - 1) * 1000000)) (by omega) (by omega) (by omega) (by omega)) (Sp.fx_fit (D := sc) (n := ((px + 1) * 1000000)) (by omega) (by omega) (by omega) (by omega)) ((Sp.fx_le (D := sc) (a := ((px - 1) * 1000000)) (b := ((px + 1) * 1000000)) (by omega)).2 (by omega))).2]; exact (Sp.fxy_fit (D := sc) (N := 1) (x := (px + 1) * 1000000) (by omega) (by omega) (by omega) (by omega)).2)); rw [(Sp.sl_told (p := Sp.fx sc ((px - 1) * 1000000)) (q := Sp.fx sc ((px + 1) * 1000000)) (Sp.fx_fit (D := sc) (n := ((px - 1) * 1000000)) (by omega) (by omega) (by omega) (by omega)) (Sp.fx_fit (D := sc) (n := ((px + 1) * 1000000)) (by omega) (by omega) (by omega) (by omega)) ((Sp.fx_le (D := sc) (a := ((px - 1) * 1000000)) (b := ((px + 1) * 1000000)) (by omega)).2 (by omega))).1, (Sp.sl_told (p := Sp.fx sc ((px - 1) * 1000000)) (q := Sp.fx sc ((px + 1) * 1000000)) (Sp.fx_fit (D := sc) (n := ((px - 1) * 1000000)) (by omega) (by omega) (by omega) (by omega)) (Sp.fx_fit (D := sc) (n := ((px + 1) * 1000000)) (by omega) (by omega) (by omega) (by omega)) ((Sp.fx_le (D := sc) (a := ((px - 1) * 1000000)) (b := ((px + 1) * 1000000)) (by omega)).2 (by omega))).2, (Sp.dv_yes (a := ((Rat.floor ((Sp.fx sc ((px - 1) * 1000000)) * ((1 : Int) : Rat)) : Int) : Rat)) (Sp.cast_ne1 (n := 1) (by omega))).1, (Sp.dv_yes (a := ((Rat.floor ((Sp.fx sc ((px - 1) * 1000000)) * ((1 : Int) : Rat)) : Int) : Rat)) (Sp.cast_ne1 (n := 1) (by omega))).2.1, (Sp.dv_yes (a := ((-Rat.floor ((-(Sp.fx sc ((px + 1) * 1000000))) * ((1 : Int) : Rat)) : Int) : Rat)) (Sp.cast_ne1 (n := 1) (by omega))).1, (Sp.dv_yes (a := ((-Rat.floor ((-(Sp.fx sc ((px + 1) * 1000000))) * ((1 : Int) : Rat)) : Int) : Rat)) (Sp.cast_ne1 (n := 1) (by omega))).2.1] at h; exact h); rw [Sp.oL_fz (D := sc) (N := 1) (by omega) ((px - 1) * 1000000), Sp.oH_fz (D := sc) (N := 1) (by omega) ((px + 1) * 1000000), Int.mul_one, Int.mul_one] at h; exact h))) <|
    .a 6 5 <| .nil _ _) ?_
  refine aw_p 63 (
    .p (does_c (fof_ok 1073741824)) <| .a 2 6 <| .nil _ _) ?_
  refine aw_sq 126 127 ?_
  refine aw_d 253 (
    .a 2 7 <|
    .p (does_c ((by have h := fabs_ok (Sp.qn (Sp.fx 1 (Sp.bwl px sc))) (Sp.qd (Sp.fx 1 (Sp.bwl px sc))) (by have := Sp.qn_bd (Sp.fx 1 (Sp.bwl px sc)); omega) (by have := Sp.qn_bd (Sp.fx 1 (Sp.bwl px sc)); omega) (by have := Sp.qd_bd (Sp.fx 1 (Sp.bwl px sc)); omega) (by have := Sp.qd_bd (Sp.fx 1 (Sp.bwl px sc)); omega); rw [(Sp.rv_fit (q := (Sp.fx 1 (Sp.bwl px sc))) (Sp.fx_fit (D := 1) (n := (Sp.bwl px sc)) (by decide) (by decide) (by omega) (by omega)))] at h; exact h))) <|
    .a 1 7 <|
    .p (does_c ((by have h := fcmp_ok (Sp.qn (Sp.rabs (Sp.fx 1 (Sp.bwl px sc)))) (Sp.qd (Sp.rabs (Sp.fx 1 (Sp.bwl px sc)))) (by have := Sp.qn_bd (Sp.rabs (Sp.fx 1 (Sp.bwl px sc))); omega) (by have := Sp.qn_bd (Sp.rabs (Sp.fx 1 (Sp.bwl px sc))); omega) (by have := Sp.qd_bd (Sp.rabs (Sp.fx 1 (Sp.bwl px sc))); omega) (by have := Sp.qd_bd (Sp.rabs (Sp.fx 1 (Sp.bwl px sc))); omega) 1073741824 1 (by decide) (by decide) (by decide) (by decide); rw [(Sp.rv_fit (q := (Sp.rabs (Sp.fx 1 (Sp.bwl px sc)))) (Sp.fitq_abs (Sp.fx_fit (D := 1) (n := (Sp.bwl px sc)) (by decide) (by decide) (by omega) (by omega)))), (Sp.rv_int 1073741824 (by decide))] at h; exact h))) <|
    .p (does_b false (((Sp.rcmp_pos (Sp.rabs (Sp.fx 1 (Sp.bwl px sc))) ((1073741824 : Int) : Rat))).trans ((show (decide (((1073741824 : Int) : Rat) < (Sp.rabs (Sp.fx 1 (Sp.bwl px sc))))) = false from (decide_eq_false (by rw [Sp.far_iff]; unfold Sp.mn Sp.mx at *; (repeat' split at *) <;> omega)))))) <|
    .a 3 7 <|
    .p (does_c ((by have h := fabs_ok (Sp.qn (Sp.fx 1 (Sp.bwh px sc))) (Sp.qd (Sp.fx 1 (Sp.bwh px sc))) (by have := Sp.qn_bd (Sp.fx 1 (Sp.bwh px sc)); omega) (by have := Sp.qn_bd (Sp.fx 1 (Sp.bwh px sc)); omega) (by have := Sp.qd_bd (Sp.fx 1 (Sp.bwh px sc)); omega) (by have := Sp.qd_bd (Sp.fx 1 (Sp.bwh px sc)); omega); rw [(Sp.rv_fit (q := (Sp.fx 1 (Sp.bwh px sc))) (Sp.fx_fit (D := 1) (n := (Sp.bwh px sc)) (by decide) (by decide) (by omega) (by omega)))] at h; exact h))) <|
    .a 1 7 <|
    .p (does_c ((by have h := fcmp_ok (Sp.qn (Sp.rabs (Sp.fx 1 (Sp.bwh px sc)))) (Sp.qd (Sp.rabs (Sp.fx 1 (Sp.bwh px sc)))) (by have := Sp.qn_bd (Sp.rabs (Sp.fx 1 (Sp.bwh px sc))); omega) (by have := Sp.qn_bd (Sp.rabs (Sp.fx 1 (Sp.bwh px sc))); omega) (by have := Sp.qd_bd (Sp.rabs (Sp.fx 1 (Sp.bwh px sc))); omega) (by have := Sp.qd_bd (Sp.rabs (Sp.fx 1 (Sp.bwh px sc))); omega) 1073741824 1 (by decide) (by decide) (by decide) (by decide); rw [(Sp.rv_fit (q := (Sp.rabs (Sp.fx 1 (Sp.bwh px sc)))) (Sp.fitq_abs (Sp.fx_fit (D := 1) (n := (Sp.bwh px sc)) (by decide) (by decide) (by omega) (by omega)))), (Sp.rv_int 1073741824 (by decide))] at h; exact h))) <|
    .p (does_b false (((Sp.rcmp_pos (Sp.rabs (Sp.fx 1 (Sp.bwh px sc))) ((1073741824 : Int) : Rat))).trans ((show (decide (((1073741824 : Int) : Rat) < (Sp.rabs (Sp.fx 1 (Sp.bwh px sc))))) = false from (decide_eq_false (by rw [Sp.far_iff]; unfold Sp.mn Sp.mx at *; (repeat' split at *) <;> omega)))))) <|
    .a 1 7 <| .nil _ _) ?_
  refine aw_fl 507 ?_
  refine aw_sk ?_
  refine then_normal ?_
  refine aw_p 255 (
    .a 2 7 <| .p (does_c (cos_ok slat s0 s1)) <| .a 6 7 <| .nil _ _) ?_
  refine aw_p 511 (
    .a 2 8 <|
    .p (does_c ((by have h := sdivN_ok (Sp.qn (Sp.fx 1 (Sp.bwl px sc))) (Sp.qd (Sp.fx 1 (Sp.bwl px sc))) (by have := Sp.qn_bd (Sp.fx 1 (Sp.bwl px sc)); omega) (by have := Sp.qn_bd (Sp.fx 1 (Sp.bwl px sc)); omega) (by have := Sp.qd_bd (Sp.fx 1 (Sp.bwl px sc)); omega) (by have := Sp.qd_bd (Sp.fx 1 (Sp.bwl px sc)); omega) (Sp.qn (Sp.fx 1 (Sp.bwh px sc))) (Sp.qd (Sp.fx 1 (Sp.bwh px sc))) (by have := Sp.qn_bd (Sp.fx 1 (Sp.bwh px sc)); omega) (by have := Sp.qn_bd (Sp.fx 1 (Sp.bwh px sc)); omega) (by have := Sp.qd_bd (Sp.fx 1 (Sp.bwh px sc)); omega) (by have := Sp.qd_bd (Sp.fx 1 (Sp.bwh px sc)); omega) (Sp.qn (Sp.fx 268435456 ((Sp.cs slat 5).1))) (Sp.qd (Sp.fx 268435456 ((Sp.cs slat 5).1))) (by have := Sp.qn_bd (Sp.fx 268435456 ((Sp.cs slat 5).1)); omega) (by have := Sp.qn_bd (Sp.fx 268435456 ((Sp.cs slat 5).1)); omega) (by have := Sp.qd_bd (Sp.fx 268435456 ((Sp.cs slat 5).1)); omega) (by have := Sp.qd_bd (Sp.fx 268435456 ((Sp.cs slat 5).1)); omega) (Sp.qn (Sp.fx 268435456 ((Sp.cs slat 5).2))) (Sp.qd (Sp.fx 268435456 ((Sp.cs slat 5).2))) (by have := Sp.qn_bd (Sp.fx 268435456 ((Sp.cs slat 5).2)); omega) (by have := Sp.qn_bd (Sp.fx 268435456 ((Sp.cs slat 5).2)); omega) (by have := Sp.qd_bd (Sp.fx 268435456 ((Sp.cs slat 5).2)); omega) (by have := Sp.qd_bd (Sp.fx 268435456 ((Sp.cs slat 5).2)); omega) (show Sp.inS (Sp.sl (Sp.qn (Sp.fx 268435456 ((Sp.cs slat 5).1))) (Sp.qd (Sp.fx 268435456 ((Sp.cs slat 5).1))) (Sp.qn (Sp.fx 268435456 ((Sp.cs slat 5).2))) (Sp.qd (Sp.fx 268435456 ((Sp.cs slat 5).2)))) (Sp.sh (Sp.qn (Sp.fx 268435456 ((Sp.cs slat 5).1))) (Sp.qd (Sp.fx 268435456 ((Sp.cs slat 5).1))) (Sp.qn (Sp.fx 268435456 ((Sp.cs slat 5).2))) (Sp.qd (Sp.fx 268435456 ((Sp.cs slat 5).2)))) ((0 : Int) : Rat) = false from by rw [(Sp.sl_told (p := Sp.fx 268435456 ((Sp.cs slat 5).1)) (q := Sp.fx 268435456 ((Sp.cs slat 5).2)) (Sp.fx_fit (D := 268435456) (n := ((Sp.cs slat 5).1)) (by decide) (by decide) (by omega) (by omega)) (Sp.fx_fit (D := 268435456) (n := ((Sp.cs slat 5).2)) (by decide) (by decide) (by omega) (by omega)) ((Sp.fx_le (D := 268435456) (a := ((Sp.cs slat 5).1)) (b := ((Sp.cs slat 5).2)) (by decide)).2 (by omega))).1, (Sp.sl_told (p := Sp.fx 268435456 ((Sp.cs slat 5).1)) (q := Sp.fx 268435456 ((Sp.cs slat 5).2)) (Sp.fx_fit (D := 268435456) (n := ((Sp.cs slat 5).1)) (by decide) (by decide) (by omega) (by omega)) (Sp.fx_fit (D := 268435456) (n := ((Sp.cs slat 5).2)) (by decide) (by decide) (by omega) (by omega)) ((Sp.fx_le (D := 268435456) (a := ((Sp.cs slat 5).1)) (b := ((Sp.cs slat 5).2)) (by decide)).2 (by omega))).2]; exact hz); rw [(Sp.sl_told (p := Sp.fx 1 (Sp.bwl px sc)) (q := Sp.fx 1 (Sp.bwh px sc)) (Sp.fx_fit (D := 1) (n := (Sp.bwl px sc)) (by decide) (by decide) (by omega) (by omega)) (Sp.fx_fit (D := 1) (n := (Sp.bwh px sc)) (by decide) (by decide) (by omega) (by omega)) ((Sp.fx_le (D := 1) (a := (Sp.bwl px sc)) (b := (Sp.bwh px sc)) (by decide)).2 (by omega))).1, (Sp.sl_told (p := Sp.fx 1 (Sp.bwl px sc)) (q := Sp.fx 1 (Sp.bwh px sc)) (Sp.fx_fit (D := 1) (n := (Sp.bwl px sc)) (by decide) (by decide) (by omega) (by omega)) (Sp.fx_fit (D := 1) (n := (Sp.bwh px sc)) (by decide) (by decide) (by omega) (by omega)) ((Sp.fx_le (D := 1) (a := (Sp.bwl px sc)) (b := (Sp.bwh px sc)) (by decide)).2 (by omega))).2, (Sp.sl_told (p := Sp.fx 268435456 ((Sp.cs slat 5).1)) (q := Sp.fx 268435456 ((Sp.cs slat 5).2)) (Sp.fx_fit (D := 268435456) (n := ((Sp.cs slat 5).1)) (by decide) (by decide) (by omega) (by omega)) (Sp.fx_fit (D := 268435456) (n := ((Sp.cs slat 5).2)) (by decide) (by decide) (by omega) (by omega)) ((Sp.fx_le (D := 268435456) (a := ((Sp.cs slat 5).1)) (b := ((Sp.cs slat 5).2)) (by decide)).2 (by omega))).1, (Sp.sl_told (p := Sp.fx 268435456 ((Sp.cs slat 5).1)) (q := Sp.fx 268435456 ((Sp.cs slat 5).2)) (Sp.fx_fit (D := 268435456) (n := ((Sp.cs slat 5).1)) (by decide) (by decide) (by omega) (by omega)) (Sp.fx_fit (D := 268435456) (n := ((Sp.cs slat 5).2)) (by decide) (by decide) (by omega) (by omega)) ((Sp.fx_le (D := 268435456) (a := ((Sp.cs slat 5).1)) (b := ((Sp.cs slat 5).2)) (by decide)).2 (by omega))).2, ← (Sp.s4_yes (p := (Sp.fx 1 (Sp.bwl px sc)) / (Sp.fx 268435456 ((Sp.cs slat 5).1))) (q := (Sp.fx 1 (Sp.bwl px sc)) / (Sp.fx 268435456 ((Sp.cs slat 5).2))) (r := (Sp.fx 1 (Sp.bwh px sc)) / (Sp.fx 268435456 ((Sp.cs slat 5).1))) (s := (Sp.fx 1 (Sp.bwh px sc)) / (Sp.fx 268435456 ((Sp.cs slat 5).2))) (Sp.al4_yes (Sp.quo_fit hc (by omega) (by omega) (by omega)) (Sp.quo_fit hd (by omega) (by omega) (by omega)) (Sp.quo_fit hc (by omega) (by omega) (by omega)) (Sp.quo_fit hd (by omega) (by omega) (by omega)))).1, ← (Sp.s4_yes (p := (Sp.fx 1 (Sp.bwl px sc)) / (Sp.fx 268435456 ((Sp.cs slat 5).1))) (q := (Sp.fx 1 (Sp.bwl px sc)) / (Sp.fx 268435456 ((Sp.cs slat 5).2))) (r := (Sp.fx 1 (Sp.bwh px sc)) / (Sp.fx 268435456 ((Sp.cs slat 5).1))) (s := (Sp.fx 1 (Sp.bwh px sc)) / (Sp.fx 268435456 ((Sp.cs slat 5).2))) (Sp.al4_yes (Sp.quo_fit hc (by omega) (by omega) (by omega)) (Sp.quo_fit hd (by omega) (by omega) (by omega)) (Sp.quo_fit hc (by omega) (by omega) (by omega)) (Sp.quo_fit hd (by omega) (by omega) (by omega)))).2.1, ← (Sp.s4_yes (p := (Sp.fx 1 (Sp.bwl px sc)) / (Sp.fx 268435456 ((Sp.cs slat 5).1))) (q := (Sp.fx 1 (Sp.bwl px sc)) / (Sp.fx 268435456 ((Sp.cs slat 5).2))) (r := (Sp.fx 1 (Sp.bwh px sc)) / (Sp.fx 268435456 ((Sp.cs slat 5).1))) (s := (Sp.fx 1 (Sp.bwh px sc)) / (Sp.fx 268435456 ((Sp.cs slat 5).2))) (Sp.al4_yes (Sp.quo_fit hc (by omega) (by omega) (by omega)) (Sp.quo_fit hd (by omega) (by omega) (by omega)) (Sp.quo_fit hc (by omega) (by omega) (by omega)) (Sp.quo_fit hd (by omega) (by omega) (by omega)))).2.2.1, ← (Sp.s4_yes (p := (Sp.fx 1 (Sp.bwl px sc)) / (Sp.fx 268435456 ((Sp.cs slat 5).1))) (q := (Sp.fx 1 (Sp.bwl px sc)) / (Sp.fx 268435456 ((Sp.cs slat 5).2))) (r := (Sp.fx 1 (Sp.bwh px sc)) / (Sp.fx 268435456 ((Sp.cs slat 5).1))) (s := (Sp.fx 1 (Sp.bwh px sc)) / (Sp.fx 268435456 ((Sp.cs slat 5).2))) (Sp.al4_yes (Sp.quo_fit hc (by omega) (by omega) (by omega)) (Sp.quo_fit hd (by omega) (by omega) (by omega)) (Sp.quo_fit hc (by omega) (by omega) (by omega)) (Sp.quo_fit hd (by omega) (by omega) (by omega)))).2.2.2.1, ← (Sp.s4_yes (p := (Sp.fx 1 (Sp.bwl px sc)) / (Sp.fx 268435456 ((Sp.cs slat 5).1))) (q := (Sp.fx 1 (Sp.bwl px sc)) / (Sp.fx 268435456 ((Sp.cs slat 5).2))) (r := (Sp.fx 1 (Sp.bwh px sc)) / (Sp.fx 268435456 ((Sp.cs slat 5).1))) (s := (Sp.fx 1 (Sp.bwh px sc)) / (Sp.fx 268435456 ((Sp.cs slat 5).2))) (Sp.al4_yes (Sp.quo_fit hc (by omega) (by omega) (by omega)) (Sp.quo_fit hd (by omega) (by omega) (by omega)) (Sp.quo_fit hc (by omega) (by omega) (by omega)) (Sp.quo_fit hd (by omega) (by omega) (by omega)))).2.2.2.2] at h; exact h))) <|
    .a 6 8 <| .nil _ _) ?_
  refine aw_p 1023 (
    .a 1 9 <|
    .p (does_c ((by have h := (by have h := soutC_ok (Sp.qn (Sp.rmin (Sp.rmin (Sp.rmin ((Sp.fx 1 (Sp.bwl px sc)) / (Sp.fx 268435456 ((Sp.cs slat 5).1))) ((Sp.fx 1 (Sp.bwl px sc)) / (Sp.fx 268435456 ((Sp.cs slat 5).2)))) ((Sp.fx 1 (Sp.bwh px sc)) / (Sp.fx 268435456 ((Sp.cs slat 5).1)))) ((Sp.fx 1 (Sp.bwh px sc)) / (Sp.fx 268435456 ((Sp.cs slat 5).2))))) (Sp.qd (Sp.rmin (Sp.rmin (Sp.rmin ((Sp.fx 1 (Sp.bwl px sc)) / (Sp.fx 268435456 ((Sp.cs slat 5).1))) ((Sp.fx 1 (Sp.bwl px sc)) / (Sp.fx 268435456 ((Sp.cs slat 5).2)))) ((Sp.fx 1 (Sp.bwh px sc)) / (Sp.fx 268435456 ((Sp.cs slat 5).1)))) ((Sp.fx 1 (Sp.bwh px sc)) / (Sp.fx 268435456 ((Sp.cs slat 5).2))))) (by have := Sp.qn_bd (Sp.rmin (Sp.rmin (Sp.rmin ((Sp.fx 1 (Sp.bwl px sc)) / (Sp.fx 268435456 ((Sp.cs slat 5).1))) ((Sp.fx 1 (Sp.bwl px sc)) / (Sp.fx 268435456 ((Sp.cs slat 5).2)))) ((Sp.fx 1 (Sp.bwh px sc)) / (Sp.fx 268435456 ((Sp.cs slat 5).1)))) ((Sp.fx 1 (Sp.bwh px sc)) / (Sp.fx 268435456 ((Sp.cs slat 5).2)))); omega) (by have := Sp.qn_bd (Sp.rmin (Sp.rmin (Sp.rmin ((Sp.fx 1 (Sp.bwl px sc)) / (Sp.fx 268435456 ((Sp.cs slat 5).1))) ((Sp.fx 1 (Sp.bwl px sc)) / (Sp.fx 268435456 ((Sp.cs slat 5).2)))) ((Sp.fx 1 (Sp.bwh px sc)) / (Sp.fx 268435456 ((Sp.cs slat 5).1)))) ((Sp.fx 1 (Sp.bwh px sc)) / (Sp.fx 268435456 ((Sp.cs slat 5).2)))); omega) (by have := Sp.qd_bd (Sp.rmin (Sp.rmin (Sp.rmin ((Sp.fx 1 (Sp.bwl px sc)) / (Sp.fx 268435456 ((Sp.cs slat 5).1))) ((Sp.fx 1 (Sp.bwl px sc)) / (Sp.fx 268435456 ((Sp.cs slat 5).2)))) ((Sp.fx 1 (Sp.bwh px sc)) / (Sp.fx 268435456 ((Sp.cs slat 5).1)))) ((Sp.fx 1 (Sp.bwh px sc)) / (Sp.fx 268435456 ((Sp.cs slat 5).2)))); omega) (by have := Sp.qd_bd (Sp.rmin (Sp.rmin (Sp.rmin ((Sp.fx 1 (Sp.bwl px sc)) / (Sp.fx 268435456 ((Sp.cs slat 5).1))) ((Sp.fx 1 (Sp.bwl px sc)) / (Sp.fx 268435456 ((Sp.cs slat 5).2)))) ((Sp.fx 1 (Sp.bwh px sc)) / (Sp.fx 268435456 ((Sp.cs slat 5).1)))) ((Sp.fx 1 (Sp.bwh px sc)) / (Sp.fx 268435456 ((Sp.cs slat 5).2)))); omega) (Sp.qn (Sp.rmax (Sp.rmax (Sp.rmax ((Sp.fx 1 (Sp.bwl px sc)) / (Sp.fx 268435456 ((Sp.cs slat 5).1))) ((Sp.fx 1 (Sp.bwl px sc)) / (Sp.fx 268435456 ((Sp.cs slat 5).2)))) ((Sp.fx 1 (Sp.bwh px sc)) / (Sp.fx 268435456 ((Sp.cs slat 5).1)))) ((Sp.fx 1 (Sp.bwh px sc)) / (Sp.fx 268435456 ((Sp.cs slat 5).2))))) (Sp.qd (Sp.rmax (Sp.rmax (Sp.rmax ((Sp.fx 1 (Sp.bwl px sc)) / (Sp.fx 268435456 ((Sp.cs slat 5).1))) ((Sp.fx 1 (Sp.bwl px sc)) / (Sp.fx 268435456 ((Sp.cs slat 5).2)))) ((Sp.fx 1 (Sp.bwh px sc)) / (Sp.fx 268435456 ((Sp.cs slat 5).1)))) ((Sp.fx 1 (Sp.bwh px sc)) / (Sp.fx 268435456 ((Sp.cs slat 5).2))))) (by have := Sp.qn_bd (Sp.rmax (Sp.rmax (Sp.rmax ((Sp.fx 1 (Sp.bwl px sc)) / (Sp.fx 268435456 ((Sp.cs slat 5).1))) ((Sp.fx 1 (Sp.bwl px sc)) / (Sp.fx 268435456 ((Sp.cs slat 5).2)))) ((Sp.fx 1 (Sp.bwh px sc)) / (Sp.fx 268435456 ((Sp.cs slat 5).1)))) ((Sp.fx 1 (Sp.bwh px sc)) / (Sp.fx 268435456 ((Sp.cs slat 5).2)))); omega) (by have := Sp.qn_bd (Sp.rmax (Sp.rmax (Sp.rmax ((Sp.fx 1 (Sp.bwl px sc)) / (Sp.fx 268435456 ((Sp.cs slat 5).1))) ((Sp.fx 1 (Sp.bwl px sc)) / (Sp.fx 268435456 ((Sp.cs slat 5).2)))) ((Sp.fx 1 (Sp.bwh px sc)) / (Sp.fx 268435456 ((Sp.cs slat 5).1)))) ((Sp.fx 1 (Sp.bwh px sc)) / (Sp.fx 268435456 ((Sp.cs slat 5).2)))); omega) (by have := Sp.qd_bd (Sp.rmax (Sp.rmax (Sp.rmax ((Sp.fx 1 (Sp.bwl px sc)) / (Sp.fx 268435456 ((Sp.cs slat 5).1))) ((Sp.fx 1 (Sp.bwl px sc)) / (Sp.fx 268435456 ((Sp.cs slat 5).2)))) ((Sp.fx 1 (Sp.bwh px sc)) / (Sp.fx 268435456 ((Sp.cs slat 5).1)))) ((Sp.fx 1 (Sp.bwh px sc)) / (Sp.fx 268435456 ((Sp.cs slat 5).2)))); omega) (by have := Sp.qd_bd (Sp.rmax (Sp.rmax (Sp.rmax ((Sp.fx 1 (Sp.bwl px sc)) / (Sp.fx 268435456 ((Sp.cs slat 5).1))) ((Sp.fx 1 (Sp.bwl px sc)) / (Sp.fx 268435456 ((Sp.cs slat 5).2)))) ((Sp.fx 1 (Sp.bwh px sc)) / (Sp.fx 268435456 ((Sp.cs slat 5).1)))) ((Sp.fx 1 (Sp.bwh px sc)) / (Sp.fx 268435456 ((Sp.cs slat 5).2)))); omega) 1 (by decide) (by decide) (by omega) (by omega) (show Sp.fitq ((Sp.sl (Sp.qn (Sp.rmin (Sp.rmin (Sp.rmin ((Sp.fx 1 (Sp.bwl px sc)) / (Sp.fx 268435456 ((Sp.cs slat 5).1))) ((Sp.fx 1 (Sp.bwl px sc)) / (Sp.fx 268435456 ((Sp.cs slat 5).2)))) ((Sp.fx 1 (Sp.bwh px sc)) / (Sp.fx 268435456 ((Sp.cs slat 5).1)))) ((Sp.fx 1 (Sp.bwh px sc)) / (Sp.fx 268435456 ((Sp.cs slat 5).2))))) (Sp.qd (Sp.rmin (Sp.rmin (Sp.rmin ((Sp.fx 1 (Sp.bwl px sc)) / (Sp.fx 268435456 ((Sp.cs slat 5).1))) ((Sp.fx 1 (Sp.bwl px sc)) / (Sp.fx 268435456 ((Sp.cs slat 5).2)))) ((Sp.fx 1 (Sp.bwh px sc)) / (Sp.fx 268435456 ((Sp.cs slat 5).1)))) ((Sp.fx 1 (Sp.bwh px sc)) / (Sp.fx 268435456 ((Sp.cs slat 5).2))))) (Sp.qn (Sp.rmax (Sp.rmax (Sp.rmax ((Sp.fx 1 (Sp.bwl px sc)) / (Sp.fx 268435456 ((Sp.cs slat 5).1))) ((Sp.fx 1 (Sp.bwl px sc)) / (Sp.fx 268435456 ((Sp.cs slat 5).2)))) ((Sp.fx 1 (Sp.bwh px sc)) / (Sp.fx 268435456 ((Sp.cs slat 5).1)))) ((Sp.fx 1 (Sp.bwh px sc)) / (Sp.fx 268435456 ((Sp.cs slat 5).2))))) (Sp.qd (Sp.rmax (Sp.rmax (Sp.rmax ((Sp.fx 1 (Sp.bwl px sc)) / (Sp.fx 268435456 ((Sp.cs slat 5).1))) ((Sp.fx 1 (Sp.bwl px sc)) / (Sp.fx 268435456 ((Sp.cs slat 5).2)))) ((Sp.fx 1 (Sp.bwh px sc)) / (Sp.fx 268435456 ((Sp.cs slat 5).1)))) ((Sp.fx 1 (Sp.bwh px sc)) / (Sp.fx 268435456 ((Sp.cs slat 5).2)))))) * ((1 : Int) : Rat)) = true from (by rw [(Sp.sl_told (p := Sp.rmin (Sp.rmin (Sp.rmin ((Sp.fx 1 (Sp.bwl px sc)) / (Sp.fx 268435456 ((Sp.cs slat 5).1))) ((Sp.fx 1 (Sp.bwl px sc)) / (Sp.fx 268435456 ((Sp.cs slat 5).2)))) ((Sp.fx 1 (Sp.bwh px sc)) / (Sp.fx 268435456 ((Sp.cs slat 5).1)))) ((Sp.fx 1 (Sp.bwh px sc)) / (Sp.fx 268435456 ((Sp.cs slat 5).2)))) (q := Sp.rmax (Sp.rmax (Sp.rmax ((Sp.fx 1 (Sp.bwl px sc)) / (Sp.fx 268435456 ((Sp.cs slat 5).1))) ((Sp.fx 1 (Sp.bwl px sc)) / (Sp.fx 268435456 ((Sp.cs slat 5).2)))) ((Sp.fx 1 (Sp.bwh px sc)) / (Sp.fx 268435456 ((Sp.cs slat 5).1)))) ((Sp.fx 1 (Sp.bwh px sc)) / (Sp.fx 268435456 ((Sp.cs slat 5).2)))) (Sp.fitq_min (Sp.fitq_min (Sp.fitq_min (Sp.quo_fit hc (by omega) (by omega) (by omega)) (Sp.quo_fit hd (by omega) (by omega) (by omega))) (Sp.quo_fit hc (by omega) (by omega) (by omega))) (Sp.quo_fit hd (by omega) (by omega) (by omega))) (Sp.fitq_max (Sp.fitq_max (Sp.fitq_max (Sp.quo_fit hc (by omega) (by omega) (by omega)) (Sp.quo_fit hd (by omega) (by omega) (by omega))) (Sp.quo_fit hc (by omega) (by omega) (by omega))) (Sp.quo_fit hd (by omega) (by omega) (by omega))) (Sp.m4_le_x4 _ _ _ _)).1]; exact (Sp.one_fit (Sp.fitq_min (Sp.fitq_min (Sp.fitq_min (Sp.quo_fit hc (by omega) (by omega) (by omega)) (Sp.quo_fit hd (by omega) (by omega) (by omega))) (Sp.quo_fit hc (by omega) (by omega) (by omega))) (Sp.quo_fit hd (by omega) (by omega) (by omega)))))) (show Sp.fitq ((-(Sp.sh (Sp.qn (Sp.rmin (Sp.rmin (Sp.rmin ((Sp.fx 1 (Sp.bwl px sc)) / (Sp.fx 268435456 ((Sp.cs slat 5).1))) ((Sp.fx 1 (Sp.bwl px sc)) / (Sp.fx 268435456 ((Sp.cs slat 5).2)))) ((Sp.fx 1 (Sp.bwh px sc)) / (Sp.fx 268435456 ((Sp.cs slat 5).1)))) ((Sp.fx 1 (Sp.bwh px sc)) / (Sp.fx 268435456 ((Sp.cs slat 5).2))))) (Sp.qd (Sp.rmin (Sp.rmin (Sp.rmin ((Sp.fx 1 (Sp.bwl px sc)) / (Sp.fx 268435456 ((Sp.cs slat 5).1))) ((Sp.fx 1 (Sp.bwl px sc)) / (Sp.fx 268435456 ((Sp.cs slat 5).2)))) ((Sp.fx 1 (Sp.bwh px sc)) / (Sp.fx 268435456 ((Sp.cs slat 5).1)))) ((Sp.fx 1 (Sp.bwh px sc)) / (Sp.fx 268435456 ((Sp.cs slat 5).2))))) (Sp.qn (Sp.rmax (Sp.rmax (Sp.rmax ((Sp.fx 1 (Sp.bwl px sc)) / (Sp.fx 268435456 ((Sp.cs slat 5).1))) ((Sp.fx 1 (Sp.bwl px sc)) / (Sp.fx 268435456 ((Sp.cs slat 5).2)))) ((Sp.fx 1 (Sp.bwh px sc)) / (Sp.fx 268435456 ((Sp.cs slat 5).1)))) ((Sp.fx 1 (Sp.bwh px sc)) / (Sp.fx 268435456 ((Sp.cs slat 5).2))))) (Sp.qd (Sp.rmax (Sp.rmax (Sp.rmax ((Sp.fx 1 (Sp.bwl px sc)) / (Sp.fx 268435456 ((Sp.cs slat 5).1))) ((Sp.fx 1 (Sp.bwl px sc)) / (Sp.fx 268435456 ((Sp.cs slat 5).2)))) ((Sp.fx 1 (Sp.bwh px sc)) / (Sp.fx 268435456 ((Sp.cs slat 5).1)))) ((Sp.fx 1 (Sp.bwh px sc)) / (Sp.fx 268435456 ((Sp.cs slat 5).2))))))) * ((1 : Int) : Rat)) = true from (by rw [(Sp.sl_told (p := Sp.rmin (Sp.rmin (Sp.rmin ((Sp.fx 1 (Sp.bwl px sc)) / (Sp.fx 268435456 ((Sp.cs slat 5).1))) ((Sp.fx 1 (Sp.bwl px sc)) / (Sp.fx 268435456 ((Sp.cs slat 5).2)))) ((Sp.fx 1 (Sp.bwh px sc)) / (Sp.fx 268435456 ((Sp.cs slat 5).1)))) ((Sp.fx 1 (Sp.bwh px sc)) / (Sp.fx 268435456 ((Sp.cs slat 5).2)))) (q := Sp.rmax (Sp.rmax (Sp.rmax ((Sp.fx 1 (Sp.bwl px sc)) / (Sp.fx 268435456 ((Sp.cs slat 5).1))) ((Sp.fx 1 (Sp.bwl px sc)) / (Sp.fx 268435456 ((Sp.cs slat 5).2)))) ((Sp.fx 1 (Sp.bwh px sc)) / (Sp.fx 268435456 ((Sp.cs slat 5).1)))) ((Sp.fx 1 (Sp.bwh px sc)) / (Sp.fx 268435456 ((Sp.cs slat 5).2)))) (Sp.fitq_min (Sp.fitq_min (Sp.fitq_min (Sp.quo_fit hc (by omega) (by omega) (by omega)) (Sp.quo_fit hd (by omega) (by omega) (by omega))) (Sp.quo_fit hc (by omega) (by omega) (by omega))) (Sp.quo_fit hd (by omega) (by omega) (by omega))) (Sp.fitq_max (Sp.fitq_max (Sp.fitq_max (Sp.quo_fit hc (by omega) (by omega) (by omega)) (Sp.quo_fit hd (by omega) (by omega) (by omega))) (Sp.quo_fit hc (by omega) (by omega) (by omega))) (Sp.quo_fit hd (by omega) (by omega) (by omega))) (Sp.m4_le_x4 _ _ _ _)).2]; exact (Sp.one_fit (Sp.fitq_neg (Sp.fitq_max (Sp.fitq_max (Sp.fitq_max (Sp.quo_fit hc (by omega) (by omega) (by omega)) (Sp.quo_fit hd (by omega) (by omega) (by omega))) (Sp.quo_fit hc (by omega) (by omega) (by omega))) (Sp.quo_fit hd (by omega) (by omega) (by omega))))))); rw [(Sp.sl_told (p := Sp.rmin (Sp.rmin (Sp.rmin ((Sp.fx 1 (Sp.bwl px sc)) / (Sp.fx 268435456 ((Sp.cs slat 5).1))) ((Sp.fx 1 (Sp.bwl px sc)) / (Sp.fx 268435456 ((Sp.cs slat 5).2)))) ((Sp.fx 1 (Sp.bwh px sc)) / (Sp.fx 268435456 ((Sp.cs slat 5).1)))) ((Sp.fx 1 (Sp.bwh px sc)) / (Sp.fx 268435456 ((Sp.cs slat 5).2)))) (q := Sp.rmax (Sp.rmax (Sp.rmax ((Sp.fx 1 (Sp.bwl px sc)) / (Sp.fx 268435456 ((Sp.cs slat 5).1))) ((Sp.fx 1 (Sp.bwl px sc)) / (Sp.fx 268435456 ((Sp.cs slat 5).2)))) ((Sp.fx 1 (Sp.bwh px sc)) / (Sp.fx 268435456 ((Sp.cs slat 5).1)))) ((Sp.fx 1 (Sp.bwh px sc)) / (Sp.fx 268435456 ((Sp.cs slat 5).2)))) (Sp.fitq_min (Sp.fitq_min (Sp.fitq_min (Sp.quo_fit hc (by omega) (by omega) (by omega)) (Sp.quo_fit hd (by omega) (by omega) (by omega))) (Sp.quo_fit hc (by omega) (by omega) (by omega))) (Sp.quo_fit hd (by omega) (by omega) (by omega))) (Sp.fitq_max (Sp.fitq_max (Sp.fitq_max (Sp.quo_fit hc (by omega) (by omega) (by omega)) (Sp.quo_fit hd (by omega) (by omega) (by omega))) (Sp.quo_fit hc (by omega) (by omega) (by omega))) (Sp.quo_fit hd (by omega) (by omega) (by omega))) (Sp.m4_le_x4 _ _ _ _)).1, (Sp.sl_told (p := Sp.rmin (Sp.rmin (Sp.rmin ((Sp.fx 1 (Sp.bwl px sc)) / (Sp.fx 268435456 ((Sp.cs slat 5).1))) ((Sp.fx 1 (Sp.bwl px sc)) / (Sp.fx 268435456 ((Sp.cs slat 5).2)))) ((Sp.fx 1 (Sp.bwh px sc)) / (Sp.fx 268435456 ((Sp.cs slat 5).1)))) ((Sp.fx 1 (Sp.bwh px sc)) / (Sp.fx 268435456 ((Sp.cs slat 5).2)))) (q := Sp.rmax (Sp.rmax (Sp.rmax ((Sp.fx 1 (Sp.bwl px sc)) / (Sp.fx 268435456 ((Sp.cs slat 5).1))) ((Sp.fx 1 (Sp.bwl px sc)) / (Sp.fx 268435456 ((Sp.cs slat 5).2)))) ((Sp.fx 1 (Sp.bwh px sc)) / (Sp.fx 268435456 ((Sp.cs slat 5).1)))) ((Sp.fx 1 (Sp.bwh px sc)) / (Sp.fx 268435456 ((Sp.cs slat 5).2)))) (Sp.fitq_min (Sp.fitq_min (Sp.fitq_min (Sp.quo_fit hc (by omega) (by omega) (by omega)) (Sp.quo_fit hd (by omega) (by omega) (by omega))) (Sp.quo_fit hc (by omega) (by omega) (by omega))) (Sp.quo_fit hd (by omega) (by omega) (by omega))) (Sp.fitq_max (Sp.fitq_max (Sp.fitq_max (Sp.quo_fit hc (by omega) (by omega) (by omega)) (Sp.quo_fit hd (by omega) (by omega) (by omega))) (Sp.quo_fit hc (by omega) (by omega) (by omega))) (Sp.quo_fit hd (by omega) (by omega) (by omega))) (Sp.m4_le_x4 _ _ _ _)).2, (Sp.dv_yes (a := ((Rat.floor ((Sp.rmin (Sp.rmin (Sp.rmin ((Sp.fx 1 (Sp.bwl px sc)) / (Sp.fx 268435456 ((Sp.cs slat 5).1))) ((Sp.fx 1 (Sp.bwl px sc)) / (Sp.fx 268435456 ((Sp.cs slat 5).2)))) ((Sp.fx 1 (Sp.bwh px sc)) / (Sp.fx 268435456 ((Sp.cs slat 5).1)))) ((Sp.fx 1 (Sp.bwh px sc)) / (Sp.fx 268435456 ((Sp.cs slat 5).2)))) * ((1 : Int) : Rat)) : Int) : Rat)) (Sp.cast_ne1 (n := 1) (by omega))).1, (Sp.dv_yes (a := ((Rat.floor ((Sp.rmin (Sp.rmin (Sp.rmin ((Sp.fx 1 (Sp.bwl px sc)) / (Sp.fx 268435456 ((Sp.cs slat 5).1))) ((Sp.fx 1 (Sp.bwl px sc)) / (Sp.fx 268435456 ((Sp.cs slat 5).2)))) ((Sp.fx 1 (Sp.bwh px sc)) / (Sp.fx 268435456 ((Sp.cs slat 5).1)))) ((Sp.fx 1 (Sp.bwh px sc)) / (Sp.fx 268435456 ((Sp.cs slat 5).2)))) * ((1 : Int) : Rat)) : Int) : Rat)) (Sp.cast_ne1 (n := 1) (by omega))).2.1, (Sp.dv_yes (a := ((-Rat.floor ((-(Sp.rmax (Sp.rmax (Sp.rmax ((Sp.fx 1 (Sp.bwl px sc)) / (Sp.fx 268435456 ((Sp.cs slat 5).1))) ((Sp.fx 1 (Sp.bwl px sc)) / (Sp.fx 268435456 ((Sp.cs slat 5).2)))) ((Sp.fx 1 (Sp.bwh px sc)) / (Sp.fx 268435456 ((Sp.cs slat 5).1)))) ((Sp.fx 1 (Sp.bwh px sc)) / (Sp.fx 268435456 ((Sp.cs slat 5).2))))) * ((1 : Int) : Rat)) : Int) : Rat)) (Sp.cast_ne1 (n := 1) (by omega))).1, (Sp.dv_yes (a := ((-Rat.floor ((-(Sp.rmax (Sp.rmax (Sp.rmax ((Sp.fx 1 (Sp.bwl px sc)) / (Sp.fx 268435456 ((Sp.cs slat 5).1))) ((Sp.fx 1 (Sp.bwl px sc)) / (Sp.fx 268435456 ((Sp.cs slat 5).2)))) ((Sp.fx 1 (Sp.bwh px sc)) / (Sp.fx 268435456 ((Sp.cs slat 5).1)))) ((Sp.fx 1 (Sp.bwh px sc)) / (Sp.fx 268435456 ((Sp.cs slat 5).2))))) * ((1 : Int) : Rat)) : Int) : Rat)) (Sp.cast_ne1 (n := 1) (by omega))).2.1] at h; exact h); rw [bo.1, bo.2] at h; exact h))) <|
    .a 4 9 <| .nil _ _) ?_
  refine aw_d 2047 (
    .a 2 9 <| .p (does_c (pof_ok slon 1 (by omega) (by omega) (by decide) (by decide))) <| .a 1 9 <|
    .p (does_c ((by have h := (by have h := sadd_ok (Sp.qn (Sp.fx 1 slon)) (Sp.qd (Sp.fx 1 slon)) (by have := Sp.qn_bd (Sp.fx 1 slon); omega) (by have := Sp.qn_bd (Sp.fx 1 slon); omega) (by have := Sp.qd_bd (Sp.fx 1 slon); omega) (by have := Sp.qd_bd (Sp.fx 1 slon); omega) (Sp.qn (Sp.fx 1 slon)) (Sp.qd (Sp.fx 1 slon)) (by have := Sp.qn_bd (Sp.fx 1 slon); omega) (by have := Sp.qn_bd (Sp.fx 1 slon); omega) (by have := Sp.qd_bd (Sp.fx 1 slon); omega) (by have := Sp.qd_bd (Sp.fx 1 slon); omega) (Sp.qn (Sp.fx 1 (Sp.bkL ((Sp.cs slat 5).1) ((Sp.cs slat 5).2) (Sp.bwl px sc) (Sp.bwh px sc)))) (Sp.qd (Sp.fx 1 (Sp.bkL ((Sp.cs slat 5).1) ((Sp.cs slat 5).2) (Sp.bwl px sc) (Sp.bwh px sc)))) (by have := Sp.qn_bd (Sp.fx 1 (Sp.bkL ((Sp.cs slat 5).1) ((Sp.cs slat 5).2) (Sp.bwl px sc) (Sp.bwh px sc))); omega) (by have := Sp.qn_bd (Sp.fx 1 (Sp.bkL ((Sp.cs slat 5).1) ((Sp.cs slat 5).2) (Sp.bwl px sc) (Sp.bwh px sc))); omega) (by have := Sp.qd_bd (Sp.fx 1 (Sp.bkL ((Sp.cs slat 5).1) ((Sp.cs slat 5).2) (Sp.bwl px sc) (Sp.bwh px sc))); omega) (by have := Sp.qd_bd (Sp.fx 1 (Sp.bkL ((Sp.cs slat 5).1) ((Sp.cs slat 5).2) (Sp.bwl px sc) (Sp.bwh px sc))); omega) (Sp.qn (Sp.fx 1 (Sp.bkH ((Sp.cs slat 5).1) ((Sp.cs slat 5).2) (Sp.bwl px sc) (Sp.bwh px sc)))) (Sp.qd (Sp.fx 1 (Sp.bkH ((Sp.cs slat 5).1) ((Sp.cs slat 5).2) (Sp.bwl px sc) (Sp.bwh px sc)))) (by have := Sp.qn_bd (Sp.fx 1 (Sp.bkH ((Sp.cs slat 5).1) ((Sp.cs slat 5).2) (Sp.bwl px sc) (Sp.bwh px sc))); omega) (by have := Sp.qn_bd (Sp.fx 1 (Sp.bkH ((Sp.cs slat 5).1) ((Sp.cs slat 5).2) (Sp.bwl px sc) (Sp.bwh px sc))); omega) (by have := Sp.qd_bd (Sp.fx 1 (Sp.bkH ((Sp.cs slat 5).1) ((Sp.cs slat 5).2) (Sp.bwl px sc) (Sp.bwh px sc))); omega) (by have := Sp.qd_bd (Sp.fx 1 (Sp.bkH ((Sp.cs slat 5).1) ((Sp.cs slat 5).2) (Sp.bwl px sc) (Sp.bwh px sc))); omega); rw [(Sp.sl_told (p := Sp.fx 1 slon) (q := Sp.fx 1 slon) (Sp.fx_fit (D := 1) (n := slon) (by decide) (by decide) (by omega) (by omega)) (Sp.fx_fit (D := 1) (n := slon) (by decide) (by decide) (by omega) (by omega)) Rat.le_refl).1, (Sp.sl_told (p := Sp.fx 1 slon) (q := Sp.fx 1 slon) (Sp.fx_fit (D := 1) (n := slon) (by decide) (by decide) (by omega) (by omega)) (Sp.fx_fit (D := 1) (n := slon) (by decide) (by decide) (by omega) (by omega)) Rat.le_refl).2, (Sp.sl_told (p := Sp.fx 1 (Sp.bkL ((Sp.cs slat 5).1) ((Sp.cs slat 5).2) (Sp.bwl px sc) (Sp.bwh px sc))) (q := Sp.fx 1 (Sp.bkH ((Sp.cs slat 5).1) ((Sp.cs slat 5).2) (Sp.bwl px sc) (Sp.bwh px sc))) (Sp.fx_fit (D := 1) (n := (Sp.bkL ((Sp.cs slat 5).1) ((Sp.cs slat 5).2) (Sp.bwl px sc) (Sp.bwh px sc))) (by decide) (by decide) (by omega) (by omega)) (Sp.fx_fit (D := 1) (n := (Sp.bkH ((Sp.cs slat 5).1) ((Sp.cs slat 5).2) (Sp.bwl px sc) (Sp.bwh px sc))) (by decide) (by decide) (by omega) (by omega)) ((Sp.fx_le (D := 1) (a := (Sp.bkL ((Sp.cs slat 5).1) ((Sp.cs slat 5).2) (Sp.bwl px sc) (Sp.bwh px sc))) (b := (Sp.bkH ((Sp.cs slat 5).1) ((Sp.cs slat 5).2) (Sp.bwl px sc) (Sp.bwh px sc))) (by decide)).2 (by omega))).1, (Sp.sl_told (p := Sp.fx 1 (Sp.bkL ((Sp.cs slat 5).1) ((Sp.cs slat 5).2) (Sp.bwl px sc) (Sp.bwh px sc))) (q := Sp.fx 1 (Sp.bkH ((Sp.cs slat 5).1) ((Sp.cs slat 5).2) (Sp.bwl px sc) (Sp.bwh px sc))) (Sp.fx_fit (D := 1) (n := (Sp.bkL ((Sp.cs slat 5).1) ((Sp.cs slat 5).2) (Sp.bwl px sc) (Sp.bwh px sc))) (by decide) (by decide) (by omega) (by omega)) (Sp.fx_fit (D := 1) (n := (Sp.bkH ((Sp.cs slat 5).1) ((Sp.cs slat 5).2) (Sp.bwl px sc) (Sp.bwh px sc))) (by decide) (by decide) (by omega) (by omega)) ((Sp.fx_le (D := 1) (a := (Sp.bkL ((Sp.cs slat 5).1) ((Sp.cs slat 5).2) (Sp.bwl px sc) (Sp.bwh px sc))) (b := (Sp.bkH ((Sp.cs slat 5).1) ((Sp.cs slat 5).2) (Sp.bwl px sc) (Sp.bwh px sc))) (by decide)).2 (by omega))).2, ← (Sp.s2_yes (p := (Sp.fx 1 slon) + (Sp.fx 1 (Sp.bkL ((Sp.cs slat 5).1) ((Sp.cs slat 5).2) (Sp.bwl px sc) (Sp.bwh px sc)))) (q := (Sp.fx 1 slon) + (Sp.fx 1 (Sp.bkH ((Sp.cs slat 5).1) ((Sp.cs slat 5).2) (Sp.bwl px sc) (Sp.bwh px sc)))) (by rw [Sp.fx_add 1 slon (Sp.bkL ((Sp.cs slat 5).1) ((Sp.cs slat 5).2) (Sp.bwl px sc) (Sp.bwh px sc))]; exact (Sp.fx_fit (D := 1) (n := (slon + Sp.bkL ((Sp.cs slat 5).1) ((Sp.cs slat 5).2) (Sp.bwl px sc) (Sp.bwh px sc))) (by decide) (by decide) (by omega) (by omega))) (by rw [Sp.fx_add 1 slon (Sp.bkH ((Sp.cs slat 5).1) ((Sp.cs slat 5).2) (Sp.bwl px sc) (Sp.bwh px sc))]; exact (Sp.fx_fit (D := 1) (n := (slon + Sp.bkH ((Sp.cs slat 5).1) ((Sp.cs slat 5).2) (Sp.bwl px sc) (Sp.bwh px sc))) (by decide) (by decide) (by omega) (by omega)))).1, ← (Sp.s2_yes (p := (Sp.fx 1 slon) + (Sp.fx 1 (Sp.bkL ((Sp.cs slat 5).1) ((Sp.cs slat 5).2) (Sp.bwl px sc) (Sp.bwh px sc)))) (q := (Sp.fx 1 slon) + (Sp.fx 1 (Sp.bkH ((Sp.cs slat 5).1) ((Sp.cs slat 5).2) (Sp.bwl px sc) (Sp.bwh px sc)))) (by rw [Sp.fx_add 1 slon (Sp.bkL ((Sp.cs slat 5).1) ((Sp.cs slat 5).2) (Sp.bwl px sc) (Sp.bwh px sc))]; exact (Sp.fx_fit (D := 1) (n := (slon + Sp.bkL ((Sp.cs slat 5).1) ((Sp.cs slat 5).2) (Sp.bwl px sc) (Sp.bwh px sc))) (by decide) (by decide) (by omega) (by omega))) (by rw [Sp.fx_add 1 slon (Sp.bkH ((Sp.cs slat 5).1) ((Sp.cs slat 5).2) (Sp.bwl px sc) (Sp.bwh px sc))]; exact (Sp.fx_fit (D := 1) (n := (slon + Sp.bkH ((Sp.cs slat 5).1) ((Sp.cs slat 5).2) (Sp.bwl px sc) (Sp.bwh px sc))) (by decide) (by decide) (by omega) (by omega)))).2.1, ← (Sp.s2_yes (p := (Sp.fx 1 slon) + (Sp.fx 1 (Sp.bkL ((Sp.cs slat 5).1) ((Sp.cs slat 5).2) (Sp.bwl px sc) (Sp.bwh px sc)))) (q := (Sp.fx 1 slon) + (Sp.fx 1 (Sp.bkH ((Sp.cs slat 5).1) ((Sp.cs slat 5).2) (Sp.bwl px sc) (Sp.bwh px sc)))) (by rw [Sp.fx_add 1 slon (Sp.bkL ((Sp.cs slat 5).1) ((Sp.cs slat 5).2) (Sp.bwl px sc) (Sp.bwh px sc))]; exact (Sp.fx_fit (D := 1) (n := (slon + Sp.bkL ((Sp.cs slat 5).1) ((Sp.cs slat 5).2) (Sp.bwl px sc) (Sp.bwh px sc))) (by decide) (by decide) (by omega) (by omega))) (by rw [Sp.fx_add 1 slon (Sp.bkH ((Sp.cs slat 5).1) ((Sp.cs slat 5).2) (Sp.bwl px sc) (Sp.bwh px sc))]; exact (Sp.fx_fit (D := 1) (n := (slon + Sp.bkH ((Sp.cs slat 5).1) ((Sp.cs slat 5).2) (Sp.bwl px sc) (Sp.bwh px sc))) (by decide) (by decide) (by omega) (by omega)))).2.2.1, ← (Sp.s2_yes (p := (Sp.fx 1 slon) + (Sp.fx 1 (Sp.bkL ((Sp.cs slat 5).1) ((Sp.cs slat 5).2) (Sp.bwl px sc) (Sp.bwh px sc)))) (q := (Sp.fx 1 slon) + (Sp.fx 1 (Sp.bkH ((Sp.cs slat 5).1) ((Sp.cs slat 5).2) (Sp.bwl px sc) (Sp.bwh px sc)))) (by rw [Sp.fx_add 1 slon (Sp.bkL ((Sp.cs slat 5).1) ((Sp.cs slat 5).2) (Sp.bwl px sc) (Sp.bwh px sc))]; exact (Sp.fx_fit (D := 1) (n := (slon + Sp.bkL ((Sp.cs slat 5).1) ((Sp.cs slat 5).2) (Sp.bwl px sc) (Sp.bwh px sc))) (by decide) (by decide) (by omega) (by omega))) (by rw [Sp.fx_add 1 slon (Sp.bkH ((Sp.cs slat 5).1) ((Sp.cs slat 5).2) (Sp.bwl px sc) (Sp.bwh px sc))]; exact (Sp.fx_fit (D := 1) (n := (slon + Sp.bkH ((Sp.cs slat 5).1) ((Sp.cs slat 5).2) (Sp.bwl px sc) (Sp.bwh px sc))) (by decide) (by decide) (by omega) (by omega)))).2.2.2.1, ← (Sp.s2_yes (p := (Sp.fx 1 slon) + (Sp.fx 1 (Sp.bkL ((Sp.cs slat 5).1) ((Sp.cs slat 5).2) (Sp.bwl px sc) (Sp.bwh px sc)))) (q := (Sp.fx 1 slon) + (Sp.fx 1 (Sp.bkH ((Sp.cs slat 5).1) ((Sp.cs slat 5).2) (Sp.bwl px sc) (Sp.bwh px sc)))) (by rw [Sp.fx_add 1 slon (Sp.bkL ((Sp.cs slat 5).1) ((Sp.cs slat 5).2) (Sp.bwl px sc) (Sp.bwh px sc))]; exact (Sp.fx_fit (D := 1) (n := (slon + Sp.bkL ((Sp.cs slat 5).1) ((Sp.cs slat 5).2) (Sp.bwl px sc) (Sp.bwh px sc))) (by decide) (by decide) (by omega) (by omega))) (by rw [Sp.fx_add 1 slon (Sp.bkH ((Sp.cs slat 5).1) ((Sp.cs slat 5).2) (Sp.bwl px sc) (Sp.bwh px sc))]; exact (Sp.fx_fit (D := 1) (n := (slon + Sp.bkH ((Sp.cs slat 5).1) ((Sp.cs slat 5).2) (Sp.bwl px sc) (Sp.bwh px sc))) (by decide) (by decide) (by omega) (by omega)))).2.2.2.2, Sp.rmin_le (Sp.radd_le Rat.le_refl ((Sp.fx_le (D := 1) (a := (Sp.bkL ((Sp.cs slat 5).1) ((Sp.cs slat 5).2) (Sp.bwl px sc) (Sp.bwh px sc))) (b := (Sp.bkH ((Sp.cs slat 5).1) ((Sp.cs slat 5).2) (Sp.bwl px sc) (Sp.bwh px sc))) (by decide)).2 (by omega))), Sp.rmax_le (Sp.radd_le Rat.le_refl ((Sp.fx_le (D := 1) (a := (Sp.bkL ((Sp.cs slat 5).1) ((Sp.cs slat 5).2) (Sp.bwl px sc) (Sp.bwh px sc))) (b := (Sp.bkH ((Sp.cs slat 5).1) ((Sp.cs slat 5).2) (Sp.bwl px sc) (Sp.bwh px sc))) (by decide)).2 (by omega)))] at h; exact h); rw [Sp.fx_add 1 slon (Sp.bkL ((Sp.cs slat 5).1) ((Sp.cs slat 5).2) (Sp.bwl px sc) (Sp.bwh px sc)), Sp.fx_add 1 slon (Sp.bkH ((Sp.cs slat 5).1) ((Sp.cs slat 5).2) (Sp.bwl px sc) (Sp.bwh px sc))] at h; exact h))) <|
    .a 4 9 <| .nil _ _) ?_
  refine aw_d 4095 (
    .a 2 9 <| .p (does_c (pof_ok slat 1 (by omega) (by omega) (by decide) (by decide))) <| .a 4 9 <| .p (does_c (paround_ok py sc (by omega) (by omega) (by omega) (by omega))) <|
    .p (does_c ((by have h := (by have h := sadd_ok (Sp.qn (Sp.fx 1 slat)) (Sp.qd (Sp.fx 1 slat)) (by have := Sp.qn_bd (Sp.fx 1 slat); omega) (by have := Sp.qn_bd (Sp.fx 1 slat); omega) (by have := Sp.qd_bd (Sp.fx 1 slat); omega) (by have := Sp.qd_bd (Sp.fx 1 slat); omega) (Sp.qn (Sp.fx 1 slat)) (Sp.qd (Sp.fx 1 slat)) (by have := Sp.qn_bd (Sp.fx 1 slat); omega) (by have := Sp.qn_bd (Sp.fx 1 slat); omega) (by have := Sp.qd_bd (Sp.fx 1 slat); omega) (by have := Sp.qd_bd (Sp.fx 1 slat); omega) (Sp.qn (Sp.fx sc ((py - 1) * 1000000))) (Sp.qd (Sp.fx sc ((py - 1) * 1000000))) (by have := Sp.qn_bd (Sp.fx sc ((py - 1) * 1000000)); omega) (by have := Sp.qn_bd (Sp.fx sc ((py - 1) * 1000000)); omega) (by have := Sp.qd_bd (Sp.fx sc ((py - 1) * 1000000)); omega) (by have := Sp.qd_bd (Sp.fx sc ((py - 1) * 1000000)); omega) (Sp.qn (Sp.fx sc ((py + 1) * 1000000))) (Sp.qd (Sp.fx sc ((py + 1) * 1000000))) (by have := Sp.qn_bd (Sp.fx sc ((py + 1) * 1000000)); omega) (by have := Sp.qn_bd (Sp.fx sc ((py + 1) * 1000000)); omega) (by have := Sp.qd_bd (Sp.fx sc ((py + 1) * 1000000)); omega) (by have := Sp.qd_bd (Sp.fx sc ((py + 1) * 1000000)); omega); rw [(Sp.sl_told (p := Sp.fx 1 slat) (q := Sp.fx 1 slat) (Sp.fx_fit (D := 1) (n := slat) (by decide) (by decide) (by omega) (by omega)) (Sp.fx_fit (D := 1) (n := slat) (by decide) (by decide) (by omega) (by omega)) Rat.le_refl).1, (Sp.sl_told (p := Sp.fx 1 slat) (q := Sp.fx 1 slat) (Sp.fx_fit (D := 1) (n := slat) (by decide) (by decide) (by omega) (by omega)) (Sp.fx_fit (D := 1) (n := slat) (by decide) (by decide) (by omega) (by omega)) Rat.le_refl).2, (Sp.sl_told (p := Sp.fx sc ((py - 1) * 1000000)) (q := Sp.fx sc ((py + 1) * 1000000)) (Sp.fx_fit (D := sc) (n := ((py - 1) * 1000000)) (by omega) (by omega) (by omega) (by omega)) (Sp.fx_fit (D := sc) (n := ((py + 1) * 1000000)) (by omega) (by omega) (by omega) (by omega)) ((Sp.fx_le (D := sc) (a := ((py - 1) * 1000000)) (b := ((py + 1) * 1000000)) (by omega)).2 (by omega))).1, (Sp.sl_told (p := Sp.fx sc ((py - 1) * 1000000)) (q := Sp.fx sc ((py + 1) * 1000000)) (Sp.fx_fit (D := sc) (n := ((py - 1) * 1000000)) (by omega) (by omega) (by omega) (by omega)) (Sp.fx_fit (D := sc) (n := ((py + 1) * 1000000)) (by omega) (by omega) (by omega) (by omega)) ((Sp.fx_le (D := sc) (a := ((py - 1) * 1000000)) (b := ((py + 1) * 1000000)) (by omega)).2 (by omega))).2, ← (Sp.s2_yes (p := (Sp.fx 1 slat) + (Sp.fx sc ((py - 1) * 1000000))) (q := (Sp.fx 1 slat) + (Sp.fx sc ((py + 1) * 1000000))) (by rw [Sp.fx_add1 (D := sc) (by omega) slat ((py - 1) * 1000000)]; exact (Sp.fx_fit (D := sc) (n := (slat * sc + (py - 1) * 1000000)) (by omega) (by omega) (by omega) (by omega))) (by rw [Sp.fx_add1 (D := sc) (by omega) slat ((py + 1) * 1000000)]; exact (Sp.fx_fit (D := sc) (n := (slat * sc + (py + 1) * 1000000)) (by omega) (by omega) (by omega) (by omega)))).1, ← (Sp.s2_yes (p := (Sp.fx 1 slat) + (Sp.fx sc ((py - 1) * 1000000))) (q := (Sp.fx 1 slat) + (Sp.fx sc ((py + 1) * 1000000))) (by rw [Sp.fx_add1 (D := sc) (by omega) slat ((py - 1) * 1000000)]; exact (Sp.fx_fit (D := sc) (n := (slat * sc + (py - 1) * 1000000)) (by omega) (by omega) (by omega) (by omega))) (by rw [Sp.fx_add1 (D := sc) (by omega) slat ((py + 1) * 1000000)]; exact (Sp.fx_fit (D := sc) (n := (slat * sc + (py + 1) * 1000000)) (by omega) (by omega) (by omega) (by omega)))).2.1, ← (Sp.s2_yes (p := (Sp.fx 1 slat) + (Sp.fx sc ((py - 1) * 1000000))) (q := (Sp.fx 1 slat) + (Sp.fx sc ((py + 1) * 1000000))) (by rw [Sp.fx_add1 (D := sc) (by omega) slat ((py - 1) * 1000000)]; exact (Sp.fx_fit (D := sc) (n := (slat * sc + (py - 1) * 1000000)) (by omega) (by omega) (by omega) (by omega))) (by rw [Sp.fx_add1 (D := sc) (by omega) slat ((py + 1) * 1000000)]; exact (Sp.fx_fit (D := sc) (n := (slat * sc + (py + 1) * 1000000)) (by omega) (by omega) (by omega) (by omega)))).2.2.1, ← (Sp.s2_yes (p := (Sp.fx 1 slat) + (Sp.fx sc ((py - 1) * 1000000))) (q := (Sp.fx 1 slat) + (Sp.fx sc ((py + 1) * 1000000))) (by rw [Sp.fx_add1 (D := sc) (by omega) slat ((py - 1) * 1000000)]; exact (Sp.fx_fit (D := sc) (n := (slat * sc + (py - 1) * 1000000)) (by omega) (by omega) (by omega) (by omega))) (by rw [Sp.fx_add1 (D := sc) (by omega) slat ((py + 1) * 1000000)]; exact (Sp.fx_fit (D := sc) (n := (slat * sc + (py + 1) * 1000000)) (by omega) (by omega) (by omega) (by omega)))).2.2.2.1, ← (Sp.s2_yes (p := (Sp.fx 1 slat) + (Sp.fx sc ((py - 1) * 1000000))) (q := (Sp.fx 1 slat) + (Sp.fx sc ((py + 1) * 1000000))) (by rw [Sp.fx_add1 (D := sc) (by omega) slat ((py - 1) * 1000000)]; exact (Sp.fx_fit (D := sc) (n := (slat * sc + (py - 1) * 1000000)) (by omega) (by omega) (by omega) (by omega))) (by rw [Sp.fx_add1 (D := sc) (by omega) slat ((py + 1) * 1000000)]; exact (Sp.fx_fit (D := sc) (n := (slat * sc + (py + 1) * 1000000)) (by omega) (by omega) (by omega) (by omega)))).2.2.2.2, Sp.rmin_le (Sp.radd_le Rat.le_refl ((Sp.fx_le (D := sc) (a := ((py - 1) * 1000000)) (b := ((py + 1) * 1000000)) (by omega)).2 (by omega))), Sp.rmax_le (Sp.radd_le Rat.le_refl ((Sp.fx_le (D := sc) (a := ((py - 1) * 1000000)) (b := ((py + 1) * 1000000)) (by omega)).2 (by omega)))] at h; exact h); rw [Sp.fx_add1 (D := sc) (by omega) slat ((py - 1) * 1000000), Sp.fx_add1 (D := sc) (by omega) slat ((py + 1) * 1000000)] at h; exact h))) <|
    .a 6 9 <| .nil _ _) ?_
  refine aw_d 8191 (
    .a 5 10 <| .nil _ _) ?_
  refine aw_rt ?_
  exact en_ret [.agg #[.int .i64 (Sp.qn (Sp.fx sc (slat * sc + (py - 1) * 1000000))), .int .i64 (Sp.qd (Sp.fx sc (slat * sc + (py - 1) * 1000000))), .int .i64 (Sp.qn (Sp.fx sc (slat * sc + (py + 1) * 1000000))), .int .i64 (Sp.qd (Sp.fx sc (slat * sc + (py + 1) * 1000000)))], .agg #[.int .i64 (Sp.qn (Sp.fx 1 (slon + Sp.bkL ((Sp.cs slat 5).1) ((Sp.cs slat 5).2) (Sp.bwl px sc) (Sp.bwh px sc)))), .int .i64 (Sp.qd (Sp.fx 1 (slon + Sp.bkL ((Sp.cs slat 5).1) ((Sp.cs slat 5).2) (Sp.bwl px sc) (Sp.bwh px sc)))), .int .i64 (Sp.qn (Sp.fx 1 (slon + Sp.bkH ((Sp.cs slat 5).1) ((Sp.cs slat 5).2) (Sp.bwl px sc) (Sp.bwh px sc)))), .int .i64 (Sp.qd (Sp.fx 1 (slon + Sp.bkH ((Sp.cs slat 5).1) ((Sp.cs slat 5).2) (Sp.bwl px sc) (Sp.bwh px sc))))], .int .i64 0] (by kernel_rfl)

theorem smin8_ok (a b c d e f g h : Int) :
    AC Try.prog 42 1 ([.slice (some ⟨0, 0, none⟩) 8 0]) [(0, ⟨[.int .i64 a, .int .i64 b, .int .i64 c, .int .i64 d, .int .i64 e, .int .i64 f, .int .i64 g, .int .i64 h], 3, true, 1⟩)] (.int .i64 (Sp.n8 a b c d e f g h)) [(0, ⟨[.int .i64 a, .int .i64 b, .int .i64 c, .int .i64 d, .int .i64 e, .int .i64 f, .int .i64 g, .int .i64 h], 3, true, 1⟩)] := by
  refine ac_in Try.func42 (fun w0 W pin => ?_)
  refine aw_p 3 (
    .a 1 1 <| .nil _ _) ?_
  refine aw_sq 6 7 ?_
  refine aw_p 13 (
    .a 3 1 <| .nil _ _) ?_
  refine aw_fl 27 ?_
  refine aw_sk ?_
  refine then_normal ?_
  refine aw_p 15 (
    .a 4 1 <| .nil _ _) ?_
  refine aw_sq 30 31 ?_
  refine aw_p 61 (
    .a 1 1 <| .nil _ _) ?_
  refine aw_bl 0 123 ?_
  refine aw_lp 247 ?_
  refine al_round ?_
  refine aw_sq 494 495 ?_
  refine aw_p 989 (
    .a 4 1 <| .nil _ _) ?_
  refine aw_tr 1978 ?_
  refine aw_sk ?_
  refine then_normal ?_
  refine aw_sq 990 991 ?_
  refine aw_bl 1 1981 ?_
  refine aw_p1 (
    .a 7 1 <| .nil _ _) ?_
  refine block_normal ?_
  refine then_normal ?_
  refine aw_p1 (
    .a 3 1 <| .nil _ _) ?_
  refine then_normal ?_
  refine al_round ?_
  refine aw_sq 494 495 ?_
  refine aw_p 989 (
    .a 4 1 <| .nil _ _) ?_
  refine aw_tr 1978 ?_
  refine aw_sk ?_
  refine then_normal ?_
  refine aw_sq 990 991 ?_
  refine aw_bl 1 1981 ?_
  refine aw_p1 (
    .a 7 1 <| .nil _ _) ?_
  refine block_normal ?_
  refine then_normal ?_
  refine aw_p1 (
    .a 3 1 <| .nil _ _) ?_
  refine then_normal ?_
  refine al_round ?_
  refine aw_sq 494 495 ?_
  refine aw_p 989 (
    .a 4 1 <| .nil _ _) ?_
  refine aw_tr 1978 ?_
  refine aw_sk ?_
  refine then_normal ?_
  refine aw_sq 990 991 ?_
  refine aw_bl 1 1981 ?_
  refine aw_p1 (
    .a 7 1 <| .nil _ _) ?_
  refine block_normal ?_
  refine then_normal ?_
  refine aw_p1 (
    .a 3 1 <| .nil _ _) ?_
  refine then_normal ?_
  refine al_round ?_
  refine aw_sq 494 495 ?_
  refine aw_p 989 (
    .a 4 1 <| .nil _ _) ?_
  refine aw_tr 1978 ?_
  refine aw_sk ?_
  refine then_normal ?_
  refine aw_sq 990 991 ?_
  refine aw_bl 1 1981 ?_
  refine aw_p1 (
    .a 7 1 <| .nil _ _) ?_
  refine block_normal ?_
  refine then_normal ?_
  refine aw_p1 (
    .a 3 1 <| .nil _ _) ?_
  refine then_normal ?_
  refine al_round ?_
  refine aw_sq 494 495 ?_
  refine aw_p 989 (
    .a 4 1 <| .nil _ _) ?_
  refine aw_tr 1978 ?_
  refine aw_sk ?_
  refine then_normal ?_
  refine aw_sq 990 991 ?_
  refine aw_bl 1 1981 ?_
  refine aw_p1 (
    .a 7 1 <| .nil _ _) ?_
  refine block_normal ?_
  refine then_normal ?_
  refine aw_p1 (
    .a 3 1 <| .nil _ _) ?_
  refine then_normal ?_
  refine al_round ?_
  refine aw_sq 494 495 ?_
  refine aw_p 989 (
    .a 4 1 <| .nil _ _) ?_
  refine aw_tr 1978 ?_
  refine aw_sk ?_
  refine then_normal ?_
  refine aw_sq 990 991 ?_
  refine aw_bl 1 1981 ?_
  refine aw_p1 (
    .a 7 1 <| .nil _ _) ?_
  refine block_normal ?_
  refine then_normal ?_
  refine aw_p1 (
    .a 3 1 <| .nil _ _) ?_
  refine then_normal ?_
  refine al_round ?_
  refine aw_sq 494 495 ?_
  refine aw_p 989 (
    .a 4 1 <| .nil _ _) ?_
  refine aw_tr 1978 ?_
  refine aw_sk ?_
  refine then_normal ?_
  refine aw_sq 990 991 ?_
  refine aw_bl 1 1981 ?_
  refine aw_p1 (
    .a 7 1 <| .nil _ _) ?_
  refine block_normal ?_
  refine then_normal ?_
  refine aw_p1 (
    .a 3 1 <| .nil _ _) ?_
  refine then_normal ?_
  refine al_round ?_
  refine aw_sq 494 495 ?_
  refine aw_p 989 (
    .a 4 1 <| .nil _ _) ?_
  refine aw_fl 1979 ?_
  refine aw_ex 0 ?_
  refine then_exit ?_
  refine then_exit ?_
  refine block_exit ?_
  refine then_normal ?_
  refine aw_p 63 (
    .a 2 1 <| .nil _ _) ?_
  refine aw_rt ?_
  exact en_ret [.int .i64 (Sp.mn (Sp.mn (Sp.mn (Sp.mn (Sp.mn (Sp.mn (Sp.mn a b) c) d) e) f) g) h)] (show (.int .i64 (Sp.mn (Sp.mn (Sp.mn (Sp.mn (Sp.mn (Sp.mn (Sp.mn a b) c) d) e) f) g) h) : Value) = (.int .i64 (Sp.n8 a b c d e f g h)) from (congrArg (Value.int .i64) (show (Sp.mn (Sp.mn (Sp.mn (Sp.mn (Sp.mn (Sp.mn (Sp.mn a b) c) d) e) f) g) h) = (Sp.n8 a b c d e f g h) from by rfl)))

theorem smax8_ok (a b c d e f g h : Int) :
    AC Try.prog 43 1 ([.slice (some ⟨0, 0, none⟩) 8 0]) [(0, ⟨[.int .i64 a, .int .i64 b, .int .i64 c, .int .i64 d, .int .i64 e, .int .i64 f, .int .i64 g, .int .i64 h], 3, true, 1⟩)] (.int .i64 (Sp.y8 a b c d e f g h)) [(0, ⟨[.int .i64 a, .int .i64 b, .int .i64 c, .int .i64 d, .int .i64 e, .int .i64 f, .int .i64 g, .int .i64 h], 3, true, 1⟩)] := by
  refine ac_in Try.func43 (fun w0 W pin => ?_)
  refine aw_p 3 (
    .a 1 1 <| .nil _ _) ?_
  refine aw_sq 6 7 ?_
  refine aw_p 13 (
    .a 3 1 <| .nil _ _) ?_
  refine aw_fl 27 ?_
  refine aw_sk ?_
  refine then_normal ?_
  refine aw_p 15 (
    .a 4 1 <| .nil _ _) ?_
  refine aw_sq 30 31 ?_
  refine aw_p 61 (
    .a 1 1 <| .nil _ _) ?_
  refine aw_bl 0 123 ?_
  refine aw_lp 247 ?_
  refine al_round ?_
  refine aw_sq 494 495 ?_
  refine aw_p 989 (
    .a 4 1 <| .nil _ _) ?_
  refine aw_tr 1978 ?_
  refine aw_sk ?_
  refine then_normal ?_
  refine aw_sq 990 991 ?_
  refine aw_bl 1 1981 ?_
  refine aw_p1 (
    .a 7 1 <| .nil _ _) ?_
  refine block_normal ?_
  refine then_normal ?_
  refine aw_p1 (
    .a 3 1 <| .nil _ _) ?_
  refine then_normal ?_
  refine al_round ?_
  refine aw_sq 494 495 ?_
  refine aw_p 989 (
    .a 4 1 <| .nil _ _) ?_
  refine aw_tr 1978 ?_
  refine aw_sk ?_
  refine then_normal ?_
  refine aw_sq 990 991 ?_
  refine aw_bl 1 1981 ?_
  refine aw_p1 (
    .a 7 1 <| .nil _ _) ?_
  refine block_normal ?_
  refine then_normal ?_
  refine aw_p1 (
    .a 3 1 <| .nil _ _) ?_
  refine then_normal ?_
  refine al_round ?_
  refine aw_sq 494 495 ?_
  refine aw_p 989 (
    .a 4 1 <| .nil _ _) ?_
  refine aw_tr 1978 ?_
  refine aw_sk ?_
  refine then_normal ?_
  refine aw_sq 990 991 ?_
  refine aw_bl 1 1981 ?_
  refine aw_p1 (
    .a 7 1 <| .nil _ _) ?_
  refine block_normal ?_
  refine then_normal ?_
  refine aw_p1 (
    .a 3 1 <| .nil _ _) ?_
  refine then_normal ?_
  refine al_round ?_
  refine aw_sq 494 495 ?_
  refine aw_p 989 (
    .a 4 1 <| .nil _ _) ?_
  refine aw_tr 1978 ?_
  refine aw_sk ?_
  refine then_normal ?_
  refine aw_sq 990 991 ?_
  refine aw_bl 1 1981 ?_
  refine aw_p1 (
    .a 7 1 <| .nil _ _) ?_
  refine block_normal ?_
  refine then_normal ?_
  refine aw_p1 (
    .a 3 1 <| .nil _ _) ?_
  refine then_normal ?_
  refine al_round ?_
  refine aw_sq 494 495 ?_
  refine aw_p 989 (
    .a 4 1 <| .nil _ _) ?_
  refine aw_tr 1978 ?_
  refine aw_sk ?_
  refine then_normal ?_
  refine aw_sq 990 991 ?_
  refine aw_bl 1 1981 ?_
  refine aw_p1 (
    .a 7 1 <| .nil _ _) ?_
  refine block_normal ?_
  refine then_normal ?_
  refine aw_p1 (
    .a 3 1 <| .nil _ _) ?_
  refine then_normal ?_
  refine al_round ?_
  refine aw_sq 494 495 ?_
  refine aw_p 989 (
    .a 4 1 <| .nil _ _) ?_
  refine aw_tr 1978 ?_
  refine aw_sk ?_
  refine then_normal ?_
  refine aw_sq 990 991 ?_
  refine aw_bl 1 1981 ?_
  refine aw_p1 (
    .a 7 1 <| .nil _ _) ?_
  refine block_normal ?_
  refine then_normal ?_
  refine aw_p1 (
    .a 3 1 <| .nil _ _) ?_
  refine then_normal ?_
  refine al_round ?_
  refine aw_sq 494 495 ?_
  refine aw_p 989 (
    .a 4 1 <| .nil _ _) ?_
  refine aw_tr 1978 ?_
  refine aw_sk ?_
  refine then_normal ?_
  refine aw_sq 990 991 ?_
  refine aw_bl 1 1981 ?_
  refine aw_p1 (
    .a 7 1 <| .nil _ _) ?_
  refine block_normal ?_
  refine then_normal ?_
  refine aw_p1 (
    .a 3 1 <| .nil _ _) ?_
  refine then_normal ?_
  refine al_round ?_
  refine aw_sq 494 495 ?_
  refine aw_p 989 (
    .a 4 1 <| .nil _ _) ?_
  refine aw_fl 1979 ?_
  refine aw_ex 0 ?_
  refine then_exit ?_
  refine then_exit ?_
  refine block_exit ?_
  refine then_normal ?_
  refine aw_p 63 (
    .a 2 1 <| .nil _ _) ?_
  refine aw_rt ?_
  exact en_ret [.int .i64 (Sp.mx (Sp.mx (Sp.mx (Sp.mx (Sp.mx (Sp.mx (Sp.mx a b) c) d) e) f) g) h)] (show (.int .i64 (Sp.mx (Sp.mx (Sp.mx (Sp.mx (Sp.mx (Sp.mx (Sp.mx a b) c) d) e) f) g) h) : Value) = (.int .i64 (Sp.y8 a b c d e f g h)) from (congrArg (Value.int .i64) (show (Sp.mx (Sp.mx (Sp.mx (Sp.mx (Sp.mx (Sp.mx (Sp.mx a b) c) d) e) f) g) h) = (Sp.y8 a b c d e f g h) from by rfl)))


end Go.Proofs.Ytcokagabchjilaa.Am
