/-
  The walk of the law SegMeets.
-/
import Derived.Test.YtigllakcfdoagaaProg
import Derived.Test.YtigllakcfdoagaaAm16
import Derived.Test.YtigllakcfdoagaaSg14
import Derived.Test.YtigllakcfdoagaaSg8
import Derived.Test.YtigllakcfdoagaaSg9
namespace Go.Proofs.Ytigllakcfdoagaa.Am
open Go Go.Proofs
set_option maxRecDepth 100000
set_option maxHeartbeats 4000000
set_option linter.unusedVariables false
set_option linter.unusedSimpArgs false

theorem segMeets_walk (ax ay bx b_y cx cy dx dy : Int) :
    AC Try.prog 4 0 ([.agg #[.int .i64 ax, .int .i64 ay], .agg #[.int .i64 bx, .int .i64 b_y], .agg #[.int .i64 cx, .int .i64 cy], .agg #[.int .i64 dx, .int .i64 dy]]) [] (.bool true) [] := by
  have qax := Sp.lim_bd (m := 1048576) (by decide) ax; have qay := Sp.lim_bd (m := 1048576) (by decide) ay; have qbx := Sp.lim_bd (m := 1048576) (by decide) bx; have qb_y := Sp.lim_bd (m := 1048576) (by decide) b_y; have qcx := Sp.lim_bd (m := 1048576) (by decide) cx; have qcy := Sp.lim_bd (m := 1048576) (by decide) cy; have qdx := Sp.lim_bd (m := 1048576) (by decide) dx; have qdy := Sp.lim_bd (m := 1048576) (by decide) dy
  refine ac_in Try.func4 (fun w0 W pin => ?_)
  refine aw_p 3 (
    .a 5 1 <| .nil _ _) ?_
  refine aw_sq 6 7 ?_
  refine aw_p 13 (
    .p (does_c (terrlaw1_segBegun_ok)) <| .a 1 5 <| .nil _ _) ?_
  refine aw_fl 27 ?_
  refine aw_sk ?_
  refine then_normal ?_
  refine aw_p 15 (
    .a 4 5 <| .p (does_c (rshared_any ax ay bx b_y cx cy dx dy)) <| .a 1 5 <| .nil _ _) ?_
  rcases Bool.eq_false_or_eq_true (decide (Sp.meetN (Sp.lim 1048576 ax) (Sp.lim 1048576 ay) (Sp.lim 1048576 bx) (Sp.lim 1048576 b_y) (Sp.lim 1048576 cx) (Sp.lim 1048576 cy) (Sp.lim 1048576 dx) (Sp.lim 1048576 dy) = 0)) with h1 | h1
  · have h1p : ((Sp.meetN (Sp.lim 1048576 ax) (Sp.lim 1048576 ay) (Sp.lim 1048576 bx) (Sp.lim 1048576 b_y) (Sp.lim 1048576 cx) (Sp.lim 1048576 cy) (Sp.lim 1048576 dx) (Sp.lim 1048576 dy) = 0)) := by first | (simpa using h1) | (have h1q := h1; simp at h1q; omega) | (have h1q := bx1 h1; simp at h1q; omega)
    refine aw_p 31 (
      .a 4 5 <| .p (does_c (segat0_any ax ay bx b_y cx cy dx dy (of_decide_eq_true h1))) <| .a 6 5 <| .nil _ _) ?_
    refine aw_sq 62 63 ?_
    refine aw_p 125 (
      .a 4 6 <| .p (does_c (segmeet_any ax ay bx b_y cx cy dx dy)) <| .a 1 6 <|
      .p (does_b false ((show ((Sp.meetN (Sp.lim 1048576 ax) (Sp.lim 1048576 ay) (Sp.lim 1048576 bx) (Sp.lim 1048576 b_y) (Sp.lim 1048576 cx) (Sp.lim 1048576 cy) (Sp.lim 1048576 dx) (Sp.lim 1048576 dy)) != (Sp.meetN (Sp.lim 1048576 ax) (Sp.lim 1048576 ay) (Sp.lim 1048576 bx) (Sp.lim 1048576 b_y) (Sp.lim 1048576 cx) (Sp.lim 1048576 cy) (Sp.lim 1048576 dx) (Sp.lim 1048576 dy))) = false from by simp))) <| .nil _ _) ?_
    refine aw_fl 251 ?_
    refine aw_sk ?_
    refine then_normal ?_
    refine aw_sq 126 127 ?_
    refine aw_p 253 (
      .a 1 6 <| .nil _ _) ?_
    refine aw_bl 0 507 ?_
    refine aw_p 1015 (
      .p (does_b true ((show ((Sp.meetN (Sp.lim 1048576 ax) (Sp.lim 1048576 ay) (Sp.lim 1048576 bx) (Sp.lim 1048576 b_y) (Sp.lim 1048576 cx) (Sp.lim 1048576 cy) (Sp.lim 1048576 dx) (Sp.lim 1048576 dy)) == 0) = true from (by rw [of_decide_eq_true h1]; decide)))) <| .a 1 6 <| .nil _ _) ?_
    refine aw_tr 2030 ?_
    refine aw_p 4061 (
      .a 5 6 <| .p (does_e true ((show (((0 == 0) && ((0 == 0) && true)) && (((0 == 0) && ((0 == 0) && true)) && true)) = true from by decide))) <| .a 2 6 <| .nil _ _) ?_
    refine aw_rt ?_
    refine block_ret ?_
    refine then_ret ?_
    exact en_ret [.bool true] (by kernel_rfl)
  · have h1p : ¬ ((Sp.meetN (Sp.lim 1048576 ax) (Sp.lim 1048576 ay) (Sp.lim 1048576 bx) (Sp.lim 1048576 b_y) (Sp.lim 1048576 cx) (Sp.lim 1048576 cy) (Sp.lim 1048576 dx) (Sp.lim 1048576 dy) = 0)) := by first | (simpa using h1) | (have h1q := h1; simp at h1q; omega) | (have h1q := bx2 h1; simp at h1q; omega)
    rcases Bool.eq_false_or_eq_true (decide (Sp.meetN (Sp.lim 1048576 ax) (Sp.lim 1048576 ay) (Sp.lim 1048576 bx) (Sp.lim 1048576 b_y) (Sp.lim 1048576 cx) (Sp.lim 1048576 cy) (Sp.lim 1048576 dx) (Sp.lim 1048576 dy) = 2)) with h2 | h2
    · have h2p : ((Sp.meetN (Sp.lim 1048576 ax) (Sp.lim 1048576 ay) (Sp.lim 1048576 bx) (Sp.lim 1048576 b_y) (Sp.lim 1048576 cx) (Sp.lim 1048576 cy) (Sp.lim 1048576 dx) (Sp.lim 1048576 dy) = 2)) := by first | (simpa using h2) | (have h2q := h2; simp at h2q; omega) | (have h2q := bx1 h2; simp at h2q; omega)
      refine aw_p 31 (
        .a 4 5 <| .p (does_c (segat2_any ax ay bx b_y cx cy dx dy (of_decide_eq_true h2))) <| .a 6 5 <| .nil _ _) ?_
      refine aw_sq 62 63 ?_
      refine aw_p 125 (
        .a 4 6 <| .p (does_c (segmeet_any ax ay bx b_y cx cy dx dy)) <| .a 1 6 <|
        .p (does_b false ((show ((Sp.meetN (Sp.lim 1048576 ax) (Sp.lim 1048576 ay) (Sp.lim 1048576 bx) (Sp.lim 1048576 b_y) (Sp.lim 1048576 cx) (Sp.lim 1048576 cy) (Sp.lim 1048576 dx) (Sp.lim 1048576 dy)) != (Sp.meetN (Sp.lim 1048576 ax) (Sp.lim 1048576 ay) (Sp.lim 1048576 bx) (Sp.lim 1048576 b_y) (Sp.lim 1048576 cx) (Sp.lim 1048576 cy) (Sp.lim 1048576 dx) (Sp.lim 1048576 dy))) = false from by simp))) <| .nil _ _) ?_
      refine aw_fl 251 ?_
      refine aw_sk ?_
      refine then_normal ?_
      refine aw_sq 126 127 ?_
      refine aw_p 253 (
        .a 1 6 <| .nil _ _) ?_
      refine aw_bl 0 507 ?_
      refine aw_p 1015 (
        .p (does_b false ((beq_eq_false_iff_ne.2 (of_decide_eq_false h1)))) <| .a 1 6 <| .nil _ _) ?_
      refine aw_fl 2031 ?_
      refine aw_p 4063 (
        .p (does_b true ((show ((Sp.meetN (Sp.lim 1048576 ax) (Sp.lim 1048576 ay) (Sp.lim 1048576 bx) (Sp.lim 1048576 b_y) (Sp.lim 1048576 cx) (Sp.lim 1048576 cy) (Sp.lim 1048576 dx) (Sp.lim 1048576 dy)) == 2) = true from (by rw [of_decide_eq_true h2]; decide)))) <| .a 1 6 <| .nil _ _) ?_
      refine aw_tr 8126 ?_
      refine aw_p 16253 (
        .a 5 6 <| .p (does_e true ((show (((0 == 0) && ((0 == 0) && true)) && (((0 == 0) && ((0 == 0) && true)) && true)) = true from by decide))) <| .a 2 6 <| .nil _ _) ?_
      refine aw_rt ?_
      refine block_ret ?_
      refine then_ret ?_
      exact en_ret [.bool true] (by kernel_rfl)
    · have h2p : ¬ ((Sp.meetN (Sp.lim 1048576 ax) (Sp.lim 1048576 ay) (Sp.lim 1048576 bx) (Sp.lim 1048576 b_y) (Sp.lim 1048576 cx) (Sp.lim 1048576 cy) (Sp.lim 1048576 dx) (Sp.lim 1048576 dy) = 2)) := by first | (simpa using h2) | (have h2q := h2; simp at h2q; omega) | (have h2q := bx2 h2; simp at h2q; omega)
      rcases Bool.eq_false_or_eq_true (Sp.prp (Sp.lim 1048576 ax) (Sp.lim 1048576 ay) (Sp.lim 1048576 bx) (Sp.lim 1048576 b_y) (Sp.lim 1048576 cx) (Sp.lim 1048576 cy) (Sp.lim 1048576 dx) (Sp.lim 1048576 dy)) with h3 | h3
      · have cf := Sp.cp_fit h3 (by omega) (by omega) (by omega) (by omega) (by omega) (by omega) (by omega) (by omega) (by omega) (by omega) (by omega) (by omega) (by omega) (by omega) (by omega) (by omega)
        refine aw_p 31 (
          .a 4 5 <| .p (does_c (segatX_any ax ay bx b_y cx cy dx dy h3)) <| .a 6 5 <| .nil _ _) ?_
        refine aw_sq 62 63 ?_
        refine aw_p 125 (
          .a 4 6 <| .p (does_c (segmeet_any ax ay bx b_y cx cy dx dy)) <| .a 1 6 <|
          .p (does_b false ((show ((Sp.meetN (Sp.lim 1048576 ax) (Sp.lim 1048576 ay) (Sp.lim 1048576 bx) (Sp.lim 1048576 b_y) (Sp.lim 1048576 cx) (Sp.lim 1048576 cy) (Sp.lim 1048576 dx) (Sp.lim 1048576 dy)) != (Sp.meetN (Sp.lim 1048576 ax) (Sp.lim 1048576 ay) (Sp.lim 1048576 bx) (Sp.lim 1048576 b_y) (Sp.lim 1048576 cx) (Sp.lim 1048576 cy) (Sp.lim 1048576 dx) (Sp.lim 1048576 dy))) = false from by simp))) <| .nil _ _) ?_
        refine aw_fl 251 ?_
        refine aw_sk ?_
        refine then_normal ?_
        refine aw_sq 126 127 ?_
        refine aw_p 253 (
          .a 1 6 <| .nil _ _) ?_
        refine aw_bl 0 507 ?_
        refine aw_p 1015 (
          .p (does_b false ((beq_eq_false_iff_ne.2 (of_decide_eq_false h1)))) <| .a 1 6 <| .nil _ _) ?_
        refine aw_fl 2031 ?_
        refine aw_p 4063 (
          .p (does_b false ((beq_eq_false_iff_ne.2 (of_decide_eq_false h2)))) <| .a 1 6 <| .nil _ _) ?_
        refine aw_fl 8127 ?_
        refine aw_sk ?_
        refine block_normal ?_
        refine then_normal ?_
        refine aw_sq 254 255 ?_
        refine aw_p 509 (
          .a 5 6 <|
          .p (does_cb _ (rfit_ok (Sp.qn (Sp.cpx (Sp.lim 1048576 ax) (Sp.lim 1048576 ay) (Sp.lim 1048576 bx) (Sp.lim 1048576 b_y) (Sp.lim 1048576 cx) (Sp.lim 1048576 cy) (Sp.lim 1048576 dx) (Sp.lim 1048576 dy))) (Sp.qd (Sp.cpx (Sp.lim 1048576 ax) (Sp.lim 1048576 ay) (Sp.lim 1048576 bx) (Sp.lim 1048576 b_y) (Sp.lim 1048576 cx) (Sp.lim 1048576 cy) (Sp.lim 1048576 dx) (Sp.lim 1048576 dy))) (by have := Sp.qn_bd (Sp.cpx (Sp.lim 1048576 ax) (Sp.lim 1048576 ay) (Sp.lim 1048576 bx) (Sp.lim 1048576 b_y) (Sp.lim 1048576 cx) (Sp.lim 1048576 cy) (Sp.lim 1048576 dx) (Sp.lim 1048576 dy)); omega) (by have := Sp.qn_bd (Sp.cpx (Sp.lim 1048576 ax) (Sp.lim 1048576 ay) (Sp.lim 1048576 bx) (Sp.lim 1048576 b_y) (Sp.lim 1048576 cx) (Sp.lim 1048576 cy) (Sp.lim 1048576 dx) (Sp.lim 1048576 dy)); omega) (by have := Sp.qd_bd (Sp.cpx (Sp.lim 1048576 ax) (Sp.lim 1048576 ay) (Sp.lim 1048576 bx) (Sp.lim 1048576 b_y) (Sp.lim 1048576 cx) (Sp.lim 1048576 cy) (Sp.lim 1048576 dx) (Sp.lim 1048576 dy)); omega) (by have := Sp.qd_bd (Sp.cpx (Sp.lim 1048576 ax) (Sp.lim 1048576 ay) (Sp.lim 1048576 bx) (Sp.lim 1048576 b_y) (Sp.lim 1048576 cx) (Sp.lim 1048576 cy) (Sp.lim 1048576 dx) (Sp.lim 1048576 dy)); omega)) true (Sp.gd_q cf.1)) <|
          .a 5 6 <|
          .p (does_cb _ (rfit_ok (Sp.qn (Sp.cpy (Sp.lim 1048576 ax) (Sp.lim 1048576 ay) (Sp.lim 1048576 bx) (Sp.lim 1048576 b_y) (Sp.lim 1048576 cx) (Sp.lim 1048576 cy) (Sp.lim 1048576 dx) (Sp.lim 1048576 dy))) (Sp.qd (Sp.cpy (Sp.lim 1048576 ax) (Sp.lim 1048576 ay) (Sp.lim 1048576 bx) (Sp.lim 1048576 b_y) (Sp.lim 1048576 cx) (Sp.lim 1048576 cy) (Sp.lim 1048576 dx) (Sp.lim 1048576 dy))) (by have := Sp.qn_bd (Sp.cpy (Sp.lim 1048576 ax) (Sp.lim 1048576 ay) (Sp.lim 1048576 bx) (Sp.lim 1048576 b_y) (Sp.lim 1048576 cx) (Sp.lim 1048576 cy) (Sp.lim 1048576 dx) (Sp.lim 1048576 dy)); omega) (by have := Sp.qn_bd (Sp.cpy (Sp.lim 1048576 ax) (Sp.lim 1048576 ay) (Sp.lim 1048576 bx) (Sp.lim 1048576 b_y) (Sp.lim 1048576 cx) (Sp.lim 1048576 cy) (Sp.lim 1048576 dx) (Sp.lim 1048576 dy)); omega) (by have := Sp.qd_bd (Sp.cpy (Sp.lim 1048576 ax) (Sp.lim 1048576 ay) (Sp.lim 1048576 bx) (Sp.lim 1048576 b_y) (Sp.lim 1048576 cx) (Sp.lim 1048576 cy) (Sp.lim 1048576 dx) (Sp.lim 1048576 dy)); omega) (by have := Sp.qd_bd (Sp.cpy (Sp.lim 1048576 ax) (Sp.lim 1048576 ay) (Sp.lim 1048576 bx) (Sp.lim 1048576 b_y) (Sp.lim 1048576 cx) (Sp.lim 1048576 cy) (Sp.lim 1048576 dx) (Sp.lim 1048576 dy)); omega)) true (Sp.gd_q cf.2)) <|
          .a 2 6 <| .nil _ _) ?_
        refine aw_fl 1019 ?_
        refine aw_sk ?_
        refine then_normal ?_
        refine aw_d 511 (
          .a 1 6 <| .p (does_c (rvalid_ok ax ay)) <| .a 1 6 <| .p (does_c (rvalid_ok bx b_y)) <| .a 1 6 <| .p (does_c (rvalid_ok cx cy)) <| .a 1 6 <| .p (does_c (rvalid_ok dx dy)) <| .a 4 6 <| .nil _ _) ?_
        refine aw_sq 1022 1023 ?_
        refine aw_p 2045 (
          .a 7 6 <| .nil _ _) ?_
        refine aw_bl 1 4091 ?_
        refine aw_lp 8183 ?_
        refine al_round ?_
        refine aw_p 16367 (
          .a 1 7 <| .nil _ _) ?_
        refine aw_sq 32734 32735 ?_
        refine aw_tr 65468 ?_
        refine aw_sk ?_
        refine then_normal ?_
        refine aw_sq 65470 65471 ?_
        refine aw_bl 2 130941 ?_
        refine aw_p 261883 (
          .a 4 7 <| .nil _ _) ?_
        refine aw_p 523767 (
          .a 3 8 <|
          .p (does_cb _ (rlies_in (Sp.lim 1048576 ax) (Sp.lim 1048576 ay) (Sp.lim 1048576 bx) (Sp.lim 1048576 b_y) (Sp.lim 1048576 ax) (Sp.lim 1048576 ay) (by omega) (by omega) (by omega) (by omega) (by omega) (by omega) (by omega) (by omega) (by omega) (by omega) (by omega) (by omega)) true (Sp.onb_a ..)) <|
          .a 4 8 <|
          .p (does_cb _ (rlies_in (Sp.lim 1048576 cx) (Sp.lim 1048576 cy) (Sp.lim 1048576 dx) (Sp.lim 1048576 dy) (Sp.lim 1048576 ax) (Sp.lim 1048576 ay) (by omega) (by omega) (by omega) (by omega) (by omega) (by omega) (by omega) (by omega) (by omega) (by omega) (by omega) (by omega)) false ((Sp.prp_off h3).1)) <|
          .a 1 8 <| .nil _ _) ?_
        refine aw_fl 1047535 ?_
        refine aw_sk ?_
        refine block_normal ?_
        refine then_normal ?_
        refine aw_p1 (
          .a 2 8 <| .nil _ _) ?_
        refine then_normal ?_
        refine al_round ?_
        refine aw_p 16367 (
          .a 1 8 <| .nil _ _) ?_
        refine aw_sq 32734 32735 ?_
        refine aw_tr 65468 ?_
        refine aw_sk ?_
        refine then_normal ?_
        refine aw_sq 65470 65471 ?_
        refine aw_bl 2 130941 ?_
        refine aw_p 261883 (
          .a 4 8 <| .nil _ _) ?_
        refine aw_p 523767 (
          .a 3 9 <|
          .p (does_cb _ (rlies_in (Sp.lim 1048576 ax) (Sp.lim 1048576 ay) (Sp.lim 1048576 bx) (Sp.lim 1048576 b_y) (Sp.lim 1048576 bx) (Sp.lim 1048576 b_y) (by omega) (by omega) (by omega) (by omega) (by omega) (by omega) (by omega) (by omega) (by omega) (by omega) (by omega) (by omega)) true (Sp.onb_b ..)) <|
          .a 4 9 <|
          .p (does_cb _ (rlies_in (Sp.lim 1048576 cx) (Sp.lim 1048576 cy) (Sp.lim 1048576 dx) (Sp.lim 1048576 dy) (Sp.lim 1048576 bx) (Sp.lim 1048576 b_y) (by omega) (by omega) (by omega) (by omega) (by omega) (by omega) (by omega) (by omega) (by omega) (by omega) (by omega) (by omega)) false ((Sp.prp_off h3).2.1)) <|
          .a 1 9 <| .nil _ _) ?_
        refine aw_fl 1047535 ?_
        refine aw_sk ?_
        refine block_normal ?_
        refine then_normal ?_
        refine aw_p1 (
          .a 2 9 <| .nil _ _) ?_
        refine then_normal ?_
        refine al_round ?_
        refine aw_p 16367 (
          .a 1 9 <| .nil _ _) ?_
        refine aw_sq 32734 32735 ?_
        refine aw_tr 65468 ?_
        refine aw_sk ?_
        refine then_normal ?_
        refine aw_sq 65470 65471 ?_
        refine aw_bl 2 130941 ?_
        refine aw_p 261883 (
          .a 4 9 <| .nil _ _) ?_
        refine aw_p 523767 (
          .a 3 10 <|
          .p (does_cb _ (rlies_in (Sp.lim 1048576 ax) (Sp.lim 1048576 ay) (Sp.lim 1048576 bx) (Sp.lim 1048576 b_y) (Sp.lim 1048576 cx) (Sp.lim 1048576 cy) (by omega) (by omega) (by omega) (by omega) (by omega) (by omega) (by omega) (by omega) (by omega) (by omega) (by omega) (by omega)) false ((Sp.prp_off h3).2.2.1)) <|
          .a 6 10 <| .nil _ _) ?_
        refine aw_fl 1047535 ?_
        refine aw_sk ?_
        refine block_normal ?_
        refine then_normal ?_
        refine aw_p1 (
          .a 2 10 <| .nil _ _) ?_
        refine then_normal ?_
        refine al_round ?_
        refine aw_p 16367 (
          .a 1 10 <| .nil _ _) ?_
        refine aw_sq 32734 32735 ?_
        refine aw_tr 65468 ?_
        refine aw_sk ?_
        refine then_normal ?_
        refine aw_sq 65470 65471 ?_
        refine aw_bl 2 130941 ?_
        refine aw_p 261883 (
          .a 4 10 <| .nil _ _) ?_
        refine aw_p 523767 (
          .a 3 11 <|
          .p (does_cb _ (rlies_in (Sp.lim 1048576 ax) (Sp.lim 1048576 ay) (Sp.lim 1048576 bx) (Sp.lim 1048576 b_y) (Sp.lim 1048576 dx) (Sp.lim 1048576 dy) (by omega) (by omega) (by omega) (by omega) (by omega) (by omega) (by omega) (by omega) (by omega) (by omega) (by omega) (by omega)) false ((Sp.prp_off h3).2.2.2)) <|
          .a 6 11 <| .nil _ _) ?_
        refine aw_fl 1047535 ?_
        refine aw_sk ?_
        refine block_normal ?_
        refine then_normal ?_
        refine aw_p1 (
          .a 2 11 <| .nil _ _) ?_
        refine then_normal ?_
        refine al_round ?_
        refine aw_p 16367 (
          .a 1 11 <| .nil _ _) ?_
        refine aw_sq 32734 32735 ?_
        refine aw_fl 65469 ?_
        refine aw_ex 1 ?_
        refine then_exit ?_
        refine then_exit ?_
        refine block_exit ?_
        refine then_normal ?_
        refine aw_p 2047 (
          .a 3 11 <|
          .p (does_c (ronline_ok (Sp.lim 1048576 ax) (Sp.lim 1048576 ay) (Sp.lim 1048576 bx) (Sp.lim 1048576 b_y) (by omega) (by omega) (by omega) (by omega) (by omega) (by omega) (by omega) (by omega) (Sp.qn (Sp.cpx (Sp.lim 1048576 ax) (Sp.lim 1048576 ay) (Sp.lim 1048576 bx) (Sp.lim 1048576 b_y) (Sp.lim 1048576 cx) (Sp.lim 1048576 cy) (Sp.lim 1048576 dx) (Sp.lim 1048576 dy))) (Sp.qd (Sp.cpx (Sp.lim 1048576 ax) (Sp.lim 1048576 ay) (Sp.lim 1048576 bx) (Sp.lim 1048576 b_y) (Sp.lim 1048576 cx) (Sp.lim 1048576 cy) (Sp.lim 1048576 dx) (Sp.lim 1048576 dy))) (by have := Sp.qn_bd (Sp.cpx (Sp.lim 1048576 ax) (Sp.lim 1048576 ay) (Sp.lim 1048576 bx) (Sp.lim 1048576 b_y) (Sp.lim 1048576 cx) (Sp.lim 1048576 cy) (Sp.lim 1048576 dx) (Sp.lim 1048576 dy)); omega) (by have := Sp.qn_bd (Sp.cpx (Sp.lim 1048576 ax) (Sp.lim 1048576 ay) (Sp.lim 1048576 bx) (Sp.lim 1048576 b_y) (Sp.lim 1048576 cx) (Sp.lim 1048576 cy) (Sp.lim 1048576 dx) (Sp.lim 1048576 dy)); omega) (by have := Sp.qd_bd (Sp.cpx (Sp.lim 1048576 ax) (Sp.lim 1048576 ay) (Sp.lim 1048576 bx) (Sp.lim 1048576 b_y) (Sp.lim 1048576 cx) (Sp.lim 1048576 cy) (Sp.lim 1048576 dx) (Sp.lim 1048576 dy)); omega) (by have := Sp.qd_bd (Sp.cpx (Sp.lim 1048576 ax) (Sp.lim 1048576 ay) (Sp.lim 1048576 bx) (Sp.lim 1048576 b_y) (Sp.lim 1048576 cx) (Sp.lim 1048576 cy) (Sp.lim 1048576 dx) (Sp.lim 1048576 dy)); omega) (Sp.qn (Sp.cpy (Sp.lim 1048576 ax) (Sp.lim 1048576 ay) (Sp.lim 1048576 bx) (Sp.lim 1048576 b_y) (Sp.lim 1048576 cx) (Sp.lim 1048576 cy) (Sp.lim 1048576 dx) (Sp.lim 1048576 dy))) (Sp.qd (Sp.cpy (Sp.lim 1048576 ax) (Sp.lim 1048576 ay) (Sp.lim 1048576 bx) (Sp.lim 1048576 b_y) (Sp.lim 1048576 cx) (Sp.lim 1048576 cy) (Sp.lim 1048576 dx) (Sp.lim 1048576 dy))) (by have := Sp.qn_bd (Sp.cpy (Sp.lim 1048576 ax) (Sp.lim 1048576 ay) (Sp.lim 1048576 bx) (Sp.lim 1048576 b_y) (Sp.lim 1048576 cx) (Sp.lim 1048576 cy) (Sp.lim 1048576 dx) (Sp.lim 1048576 dy)); omega) (by have := Sp.qn_bd (Sp.cpy (Sp.lim 1048576 ax) (Sp.lim 1048576 ay) (Sp.lim 1048576 bx) (Sp.lim 1048576 b_y) (Sp.lim 1048576 cx) (Sp.lim 1048576 cy) (Sp.lim 1048576 dx) (Sp.lim 1048576 dy)); omega) (by have := Sp.qd_bd (Sp.cpy (Sp.lim 1048576 ax) (Sp.lim 1048576 ay) (Sp.lim 1048576 bx) (Sp.lim 1048576 b_y) (Sp.lim 1048576 cx) (Sp.lim 1048576 cy) (Sp.lim 1048576 dx) (Sp.lim 1048576 dy)); omega) (by have := Sp.qd_bd (Sp.cpy (Sp.lim 1048576 ax) (Sp.lim 1048576 ay) (Sp.lim 1048576 bx) (Sp.lim 1048576 b_y) (Sp.lim 1048576 cx) (Sp.lim 1048576 cy) (Sp.lim 1048576 dx) (Sp.lim 1048576 dy)); omega) (Sp.onl_ab h3 cf.1 cf.2))) <|
          .a 4 11 <|
          .p (does_c (ronline_ok (Sp.lim 1048576 cx) (Sp.lim 1048576 cy) (Sp.lim 1048576 dx) (Sp.lim 1048576 dy) (by omega) (by omega) (by omega) (by omega) (by omega) (by omega) (by omega) (by omega) (Sp.qn (Sp.cpx (Sp.lim 1048576 ax) (Sp.lim 1048576 ay) (Sp.lim 1048576 bx) (Sp.lim 1048576 b_y) (Sp.lim 1048576 cx) (Sp.lim 1048576 cy) (Sp.lim 1048576 dx) (Sp.lim 1048576 dy))) (Sp.qd (Sp.cpx (Sp.lim 1048576 ax) (Sp.lim 1048576 ay) (Sp.lim 1048576 bx) (Sp.lim 1048576 b_y) (Sp.lim 1048576 cx) (Sp.lim 1048576 cy) (Sp.lim 1048576 dx) (Sp.lim 1048576 dy))) (by have := Sp.qn_bd (Sp.cpx (Sp.lim 1048576 ax) (Sp.lim 1048576 ay) (Sp.lim 1048576 bx) (Sp.lim 1048576 b_y) (Sp.lim 1048576 cx) (Sp.lim 1048576 cy) (Sp.lim 1048576 dx) (Sp.lim 1048576 dy)); omega) (by have := Sp.qn_bd (Sp.cpx (Sp.lim 1048576 ax) (Sp.lim 1048576 ay) (Sp.lim 1048576 bx) (Sp.lim 1048576 b_y) (Sp.lim 1048576 cx) (Sp.lim 1048576 cy) (Sp.lim 1048576 dx) (Sp.lim 1048576 dy)); omega) (by have := Sp.qd_bd (Sp.cpx (Sp.lim 1048576 ax) (Sp.lim 1048576 ay) (Sp.lim 1048576 bx) (Sp.lim 1048576 b_y) (Sp.lim 1048576 cx) (Sp.lim 1048576 cy) (Sp.lim 1048576 dx) (Sp.lim 1048576 dy)); omega) (by have := Sp.qd_bd (Sp.cpx (Sp.lim 1048576 ax) (Sp.lim 1048576 ay) (Sp.lim 1048576 bx) (Sp.lim 1048576 b_y) (Sp.lim 1048576 cx) (Sp.lim 1048576 cy) (Sp.lim 1048576 dx) (Sp.lim 1048576 dy)); omega) (Sp.qn (Sp.cpy (Sp.lim 1048576 ax) (Sp.lim 1048576 ay) (Sp.lim 1048576 bx) (Sp.lim 1048576 b_y) (Sp.lim 1048576 cx) (Sp.lim 1048576 cy) (Sp.lim 1048576 dx) (Sp.lim 1048576 dy))) (Sp.qd (Sp.cpy (Sp.lim 1048576 ax) (Sp.lim 1048576 ay) (Sp.lim 1048576 bx) (Sp.lim 1048576 b_y) (Sp.lim 1048576 cx) (Sp.lim 1048576 cy) (Sp.lim 1048576 dx) (Sp.lim 1048576 dy))) (by have := Sp.qn_bd (Sp.cpy (Sp.lim 1048576 ax) (Sp.lim 1048576 ay) (Sp.lim 1048576 bx) (Sp.lim 1048576 b_y) (Sp.lim 1048576 cx) (Sp.lim 1048576 cy) (Sp.lim 1048576 dx) (Sp.lim 1048576 dy)); omega) (by have := Sp.qn_bd (Sp.cpy (Sp.lim 1048576 ax) (Sp.lim 1048576 ay) (Sp.lim 1048576 bx) (Sp.lim 1048576 b_y) (Sp.lim 1048576 cx) (Sp.lim 1048576 cy) (Sp.lim 1048576 dx) (Sp.lim 1048576 dy)); omega) (by have := Sp.qd_bd (Sp.cpy (Sp.lim 1048576 ax) (Sp.lim 1048576 ay) (Sp.lim 1048576 bx) (Sp.lim 1048576 b_y) (Sp.lim 1048576 cx) (Sp.lim 1048576 cy) (Sp.lim 1048576 dx) (Sp.lim 1048576 dy)); omega) (by have := Sp.qd_bd (Sp.cpy (Sp.lim 1048576 ax) (Sp.lim 1048576 ay) (Sp.lim 1048576 bx) (Sp.lim 1048576 b_y) (Sp.lim 1048576 cx) (Sp.lim 1048576 cy) (Sp.lim 1048576 dx) (Sp.lim 1048576 dy)); omega) (Sp.onl_cd h3 cf.1 cf.2))) <|
          .a 2 11 <| .nil _ _) ?_
        refine aw_rt ?_
        exact en_ret [.bool true] (by kernel_rfl)
      · have hone := Sp.one_sp (of_decide_eq_false h1) (of_decide_eq_false h2) h3
        have zb := Sp.one_bd hone (by omega) (by omega) (by omega) (by omega) (by omega) (by omega) (by omega) (by omega) (by omega) (by omega) (by omega) (by omega) (by omega) (by omega) (by omega) (by omega)
        refine aw_p 31 (
          .a 4 5 <|
          .p (does_c (segat1_any ax ay bx b_y cx cy dx dy (Sp.spx (Sp.lim 1048576 ax) (Sp.lim 1048576 ay) (Sp.lim 1048576 bx) (Sp.lim 1048576 b_y) (Sp.lim 1048576 cx) (Sp.lim 1048576 cy) (Sp.lim 1048576 dx) (Sp.lim 1048576 dy)) (Sp.spy (Sp.lim 1048576 ax) (Sp.lim 1048576 ay) (Sp.lim 1048576 bx) (Sp.lim 1048576 b_y) (Sp.lim 1048576 cx) (Sp.lim 1048576 cy) (Sp.lim 1048576 dx) (Sp.lim 1048576 dy)) (Sp.one_sp (of_decide_eq_false h1) (of_decide_eq_false h2) h3))) <|
          .a 6 5 <| .nil _ _) ?_
        refine aw_sq 62 63 ?_
        refine aw_p 125 (
          .a 4 6 <| .p (does_c (segmeet_any ax ay bx b_y cx cy dx dy)) <| .a 1 6 <|
          .p (does_b false ((show ((Sp.meetN (Sp.lim 1048576 ax) (Sp.lim 1048576 ay) (Sp.lim 1048576 bx) (Sp.lim 1048576 b_y) (Sp.lim 1048576 cx) (Sp.lim 1048576 cy) (Sp.lim 1048576 dx) (Sp.lim 1048576 dy)) != (Sp.meetN (Sp.lim 1048576 ax) (Sp.lim 1048576 ay) (Sp.lim 1048576 bx) (Sp.lim 1048576 b_y) (Sp.lim 1048576 cx) (Sp.lim 1048576 cy) (Sp.lim 1048576 dx) (Sp.lim 1048576 dy))) = false from by simp))) <| .nil _ _) ?_
        refine aw_fl 251 ?_
        refine aw_sk ?_
        refine then_normal ?_
        refine aw_sq 126 127 ?_
        refine aw_p 253 (
          .a 1 6 <| .nil _ _) ?_
        refine aw_bl 0 507 ?_
        refine aw_p 1015 (
          .p (does_b false ((beq_eq_false_iff_ne.2 (of_decide_eq_false h1)))) <| .a 1 6 <| .nil _ _) ?_
        refine aw_fl 2031 ?_
        refine aw_p 4063 (
          .p (does_b false ((beq_eq_false_iff_ne.2 (of_decide_eq_false h2)))) <| .a 1 6 <| .nil _ _) ?_
        refine aw_fl 8127 ?_
        refine aw_sk ?_
        refine block_normal ?_
        refine then_normal ?_
        refine aw_sq 254 255 ?_
        refine aw_p 509 (
          .a 5 6 <|
          .p (does_cb _ (rfit_ok (Sp.spx (Sp.lim 1048576 ax) (Sp.lim 1048576 ay) (Sp.lim 1048576 bx) (Sp.lim 1048576 b_y) (Sp.lim 1048576 cx) (Sp.lim 1048576 cy) (Sp.lim 1048576 dx) (Sp.lim 1048576 dy)) 1 (by omega) (by omega) (by decide) (by decide)) true ((show (Sp.gd (Sp.spx (Sp.lim 1048576 ax) (Sp.lim 1048576 ay) (Sp.lim 1048576 bx) (Sp.lim 1048576 b_y) (Sp.lim 1048576 cx) (Sp.lim 1048576 cy) (Sp.lim 1048576 dx) (Sp.lim 1048576 dy)) 1) = true from Sp.gd_int (by omega)))) <|
          .a 5 6 <|
          .p (does_cb _ (rfit_ok (Sp.spy (Sp.lim 1048576 ax) (Sp.lim 1048576 ay) (Sp.lim 1048576 bx) (Sp.lim 1048576 b_y) (Sp.lim 1048576 cx) (Sp.lim 1048576 cy) (Sp.lim 1048576 dx) (Sp.lim 1048576 dy)) 1 (by omega) (by omega) (by decide) (by decide)) true ((show (Sp.gd (Sp.spy (Sp.lim 1048576 ax) (Sp.lim 1048576 ay) (Sp.lim 1048576 bx) (Sp.lim 1048576 b_y) (Sp.lim 1048576 cx) (Sp.lim 1048576 cy) (Sp.lim 1048576 dx) (Sp.lim 1048576 dy)) 1) = true from Sp.gd_int (by omega)))) <|
          .a 2 6 <| .nil _ _) ?_
        refine aw_fl 1019 ?_
        refine aw_sk ?_
        refine then_normal ?_
        refine aw_d 511 (
          .a 1 6 <| .p (does_c (rvalid_ok ax ay)) <| .a 1 6 <| .p (does_c (rvalid_ok bx b_y)) <| .a 1 6 <| .p (does_c (rvalid_ok cx cy)) <| .a 1 6 <| .p (does_c (rvalid_ok dx dy)) <| .a 4 6 <| .nil _ _) ?_
        refine aw_sq 1022 1023 ?_
        refine aw_p 2045 (
          .a 7 6 <| .nil _ _) ?_
        refine aw_bl 1 4091 ?_
        refine aw_lp 8183 ?_
        refine al_round ?_
        refine aw_p 16367 (
          .a 1 7 <| .nil _ _) ?_
        refine aw_sq 32734 32735 ?_
        refine aw_tr 65468 ?_
        refine aw_sk ?_
        refine then_normal ?_
        refine aw_sq 65470 65471 ?_
        refine aw_bl 2 130941 ?_
        refine aw_p 261883 (
          .a 4 7 <| .nil _ _) ?_
        refine aw_p 523767 (
          .a 3 8 <|
          .p (does_cb _ (rlies_in (Sp.lim 1048576 ax) (Sp.lim 1048576 ay) (Sp.lim 1048576 bx) (Sp.lim 1048576 b_y) (Sp.lim 1048576 ax) (Sp.lim 1048576 ay) (by omega) (by omega) (by omega) (by omega) (by omega) (by omega) (by omega) (by omega) (by omega) (by omega) (by omega) (by omega)) true (Sp.onb_a ..)) <|
          .a 4 8 <| .p (does_c (rlies_in (Sp.lim 1048576 cx) (Sp.lim 1048576 cy) (Sp.lim 1048576 dx) (Sp.lim 1048576 dy) (Sp.lim 1048576 ax) (Sp.lim 1048576 ay) (by omega) (by omega) (by omega) (by omega) (by omega) (by omega) (by omega) (by omega) (by omega) (by omega) (by omega) (by omega))) <| .a 1 8 <| .nil _ _) ?_
        refine aw_cd 1047534 1047535 (Sp.onb (Sp.lim 1048576 cx) (Sp.lim 1048576 cy) (Sp.lim 1048576 dx) (Sp.lim 1048576 dy) (Sp.lim 1048576 ax) (Sp.lim 1048576 ay)) (fun h4 => ?_) (fun h4 => ?_)
        · refine aw_p 2095069 (
            .a 8 8 <|
            .p (does_e true ((show ((((Sp.spx (Sp.lim 1048576 ax) (Sp.lim 1048576 ay) (Sp.lim 1048576 bx) (Sp.lim 1048576 b_y) (Sp.lim 1048576 cx) (Sp.lim 1048576 cy) (Sp.lim 1048576 dx) (Sp.lim 1048576 dy)) == (Sp.lim 1048576 ax)) && ((1 == 1) && true)) && ((((Sp.spy (Sp.lim 1048576 ax) (Sp.lim 1048576 ay) (Sp.lim 1048576 bx) (Sp.lim 1048576 b_y) (Sp.lim 1048576 cx) (Sp.lim 1048576 cy) (Sp.lim 1048576 dx) (Sp.lim 1048576 dy)) == (Sp.lim 1048576 ay)) && ((1 == 1) && true)) && true)) = true from (by have q := Sp.one_is hone (Sp.onb_a ..) h4 (by simp); rw [q.1, q.2]; simp)))) <|
            .a 1 8 <| .nil _ _) ?_
          refine aw_rt ?_
          refine block_ret ?_
          refine then_ret ?_
          refine then_ret ?_
          refine block_ret ?_
          refine then_ret ?_
          exact en_ret [.bool true] (by kernel_rfl)
        · refine aw_sk ?_
          refine block_normal ?_
          refine then_normal ?_
          refine aw_p1 (
            .a 2 8 <| .nil _ _) ?_
          refine then_normal ?_
          refine al_round ?_
          refine aw_p 16367 (
            .a 1 8 <| .nil _ _) ?_
          refine aw_sq 32734 32735 ?_
          refine aw_tr 65468 ?_
          refine aw_sk ?_
          refine then_normal ?_
          refine aw_sq 65470 65471 ?_
          refine aw_bl 2 130941 ?_
          refine aw_p 261883 (
            .a 4 8 <| .nil _ _) ?_
          refine aw_p 523767 (
            .a 3 9 <|
            .p (does_cb _ (rlies_in (Sp.lim 1048576 ax) (Sp.lim 1048576 ay) (Sp.lim 1048576 bx) (Sp.lim 1048576 b_y) (Sp.lim 1048576 bx) (Sp.lim 1048576 b_y) (by omega) (by omega) (by omega) (by omega) (by omega) (by omega) (by omega) (by omega) (by omega) (by omega) (by omega) (by omega)) true (Sp.onb_b ..)) <|
            .a 4 9 <| .p (does_c (rlies_in (Sp.lim 1048576 cx) (Sp.lim 1048576 cy) (Sp.lim 1048576 dx) (Sp.lim 1048576 dy) (Sp.lim 1048576 bx) (Sp.lim 1048576 b_y) (by omega) (by omega) (by omega) (by omega) (by omega) (by omega) (by omega) (by omega) (by omega) (by omega) (by omega) (by omega))) <| .a 1 9 <| .nil _ _) ?_
          refine aw_cd 1047534 1047535 (Sp.onb (Sp.lim 1048576 cx) (Sp.lim 1048576 cy) (Sp.lim 1048576 dx) (Sp.lim 1048576 dy) (Sp.lim 1048576 bx) (Sp.lim 1048576 b_y)) (fun h5 => ?_) (fun h5 => ?_)
          · refine aw_p 2095069 (
              .a 8 9 <|
              .p (does_e true ((show ((((Sp.spx (Sp.lim 1048576 ax) (Sp.lim 1048576 ay) (Sp.lim 1048576 bx) (Sp.lim 1048576 b_y) (Sp.lim 1048576 cx) (Sp.lim 1048576 cy) (Sp.lim 1048576 dx) (Sp.lim 1048576 dy)) == (Sp.lim 1048576 bx)) && ((1 == 1) && true)) && ((((Sp.spy (Sp.lim 1048576 ax) (Sp.lim 1048576 ay) (Sp.lim 1048576 bx) (Sp.lim 1048576 b_y) (Sp.lim 1048576 cx) (Sp.lim 1048576 cy) (Sp.lim 1048576 dx) (Sp.lim 1048576 dy)) == (Sp.lim 1048576 b_y)) && ((1 == 1) && true)) && true)) = true from (by have q := Sp.one_is hone (Sp.onb_b ..) h5 (by simp); rw [q.1, q.2]; simp)))) <|
              .a 1 9 <| .nil _ _) ?_
            refine aw_rt ?_
            refine block_ret ?_
            refine then_ret ?_
            refine then_ret ?_
            refine block_ret ?_
            refine then_ret ?_
            exact en_ret [.bool true] (by kernel_rfl)
          · refine aw_sk ?_
            refine block_normal ?_
            refine then_normal ?_
            refine aw_p1 (
              .a 2 9 <| .nil _ _) ?_
            refine then_normal ?_
            refine al_round ?_
            refine aw_p 16367 (
              .a 1 9 <| .nil _ _) ?_
            refine aw_sq 32734 32735 ?_
            refine aw_tr 65468 ?_
            refine aw_sk ?_
            refine then_normal ?_
            refine aw_sq 65470 65471 ?_
            refine aw_bl 2 130941 ?_
            refine aw_p 261883 (
              .a 4 9 <| .nil _ _) ?_
            rcases Bool.eq_false_or_eq_true (Sp.onb (Sp.lim 1048576 ax) (Sp.lim 1048576 ay) (Sp.lim 1048576 bx) (Sp.lim 1048576 b_y) (Sp.lim 1048576 cx) (Sp.lim 1048576 cy)) with h6 | h6
            · refine aw_p 523767 (
                .a 3 10 <|
                .p (does_cb _ (rlies_in (Sp.lim 1048576 ax) (Sp.lim 1048576 ay) (Sp.lim 1048576 bx) (Sp.lim 1048576 b_y) (Sp.lim 1048576 cx) (Sp.lim 1048576 cy) (by omega) (by omega) (by omega) (by omega) (by omega) (by omega) (by omega) (by omega) (by omega) (by omega) (by omega) (by omega)) true (h6)) <|
                .a 4 10 <|
                .p (does_cb _ (rlies_in (Sp.lim 1048576 cx) (Sp.lim 1048576 cy) (Sp.lim 1048576 dx) (Sp.lim 1048576 dy) (Sp.lim 1048576 cx) (Sp.lim 1048576 cy) (by omega) (by omega) (by omega) (by omega) (by omega) (by omega) (by omega) (by omega) (by omega) (by omega) (by omega) (by omega)) true (Sp.onb_a ..)) <|
                .a 1 10 <| .nil _ _) ?_
              refine aw_tr 1047534 ?_
              refine aw_p 2095069 (
                .a 8 10 <|
                .p (does_e true ((show ((((Sp.spx (Sp.lim 1048576 ax) (Sp.lim 1048576 ay) (Sp.lim 1048576 bx) (Sp.lim 1048576 b_y) (Sp.lim 1048576 cx) (Sp.lim 1048576 cy) (Sp.lim 1048576 dx) (Sp.lim 1048576 dy)) == (Sp.lim 1048576 cx)) && ((1 == 1) && true)) && ((((Sp.spy (Sp.lim 1048576 ax) (Sp.lim 1048576 ay) (Sp.lim 1048576 bx) (Sp.lim 1048576 b_y) (Sp.lim 1048576 cx) (Sp.lim 1048576 cy) (Sp.lim 1048576 dx) (Sp.lim 1048576 dy)) == (Sp.lim 1048576 cy)) && ((1 == 1) && true)) && true)) = true from (by have q := Sp.one_is hone h6 (Sp.onb_a ..) (by simp); rw [q.1, q.2]; simp)))) <|
                .a 1 10 <| .nil _ _) ?_
              refine aw_rt ?_
              refine block_ret ?_
              refine then_ret ?_
              refine then_ret ?_
              refine block_ret ?_
              refine then_ret ?_
              exact en_ret [.bool true] (by kernel_rfl)
            · refine aw_p 523767 (
                .a 3 10 <|
                .p (does_cb _ (rlies_in (Sp.lim 1048576 ax) (Sp.lim 1048576 ay) (Sp.lim 1048576 bx) (Sp.lim 1048576 b_y) (Sp.lim 1048576 cx) (Sp.lim 1048576 cy) (by omega) (by omega) (by omega) (by omega) (by omega) (by omega) (by omega) (by omega) (by omega) (by omega) (by omega) (by omega)) false (h6)) <|
                .a 6 10 <| .nil _ _) ?_
              refine aw_fl 1047535 ?_
              refine aw_sk ?_
              refine block_normal ?_
              refine then_normal ?_
              refine aw_p1 (
                .a 2 10 <| .nil _ _) ?_
              refine then_normal ?_
              refine al_round ?_
              refine aw_p 16367 (
                .a 1 10 <| .nil _ _) ?_
              refine aw_sq 32734 32735 ?_
              refine aw_tr 65468 ?_
              refine aw_sk ?_
              refine then_normal ?_
              refine aw_sq 65470 65471 ?_
              refine aw_bl 2 130941 ?_
              refine aw_p 261883 (
                .a 4 10 <| .nil _ _) ?_
              refine aw_p 523767 (
                .a 3 11 <|
                .p (does_cb _ (rlies_in (Sp.lim 1048576 ax) (Sp.lim 1048576 ay) (Sp.lim 1048576 bx) (Sp.lim 1048576 b_y) (Sp.lim 1048576 dx) (Sp.lim 1048576 dy) (by omega) (by omega) (by omega) (by omega) (by omega) (by omega) (by omega) (by omega) (by omega) (by omega) (by omega) (by omega)) true ((Sp.last_on hone h4 h5 h6))) <|
                .a 4 11 <|
                .p (does_cb _ (rlies_in (Sp.lim 1048576 cx) (Sp.lim 1048576 cy) (Sp.lim 1048576 dx) (Sp.lim 1048576 dy) (Sp.lim 1048576 dx) (Sp.lim 1048576 dy) (by omega) (by omega) (by omega) (by omega) (by omega) (by omega) (by omega) (by omega) (by omega) (by omega) (by omega) (by omega)) true (Sp.onb_b ..)) <|
                .a 1 11 <| .nil _ _) ?_
              refine aw_tr 1047534 ?_
              refine aw_p 2095069 (
                .a 8 11 <|
                .p (does_e true ((show ((((Sp.spx (Sp.lim 1048576 ax) (Sp.lim 1048576 ay) (Sp.lim 1048576 bx) (Sp.lim 1048576 b_y) (Sp.lim 1048576 cx) (Sp.lim 1048576 cy) (Sp.lim 1048576 dx) (Sp.lim 1048576 dy)) == (Sp.lim 1048576 dx)) && ((1 == 1) && true)) && ((((Sp.spy (Sp.lim 1048576 ax) (Sp.lim 1048576 ay) (Sp.lim 1048576 bx) (Sp.lim 1048576 b_y) (Sp.lim 1048576 cx) (Sp.lim 1048576 cy) (Sp.lim 1048576 dx) (Sp.lim 1048576 dy)) == (Sp.lim 1048576 dy)) && ((1 == 1) && true)) && true)) = true from (by have q := Sp.one_is hone (Sp.last_on hone h4 h5 h6) (Sp.onb_b ..) (by simp); rw [q.1, q.2]; simp)))) <|
                .a 1 11 <| .nil _ _) ?_
              refine aw_rt ?_
              refine block_ret ?_
              refine then_ret ?_
              refine then_ret ?_
              refine block_ret ?_
              refine then_ret ?_
              exact en_ret [.bool true] (by kernel_rfl)


end Go.Proofs.Ytigllakcfdoagaa.Am
