/-
  The walk of the law SegSame.
-/
import Derived.Test.YtigllakcfdoagaaProg
import Derived.Test.YtigllakcfdoagaaAm16
import Derived.Test.YtigllakcfdoagaaSg4
import Derived.Test.YtigllakcfdoagaaSq6
namespace Go.Proofs.Ytigllakcfdoagaa.Am
open Go Go.Proofs
set_option maxRecDepth 100000
set_option maxHeartbeats 4000000
set_option linter.unusedVariables false
set_option linter.unusedSimpArgs false

theorem segSame_walk (x y z t ax ay bx b_y cx cy dx dy : Int) (hx : AC Try.prog 16 0 [.int .i64 x] [] (.agg #[.int .i64 ax, .int .i64 ay]) []) (hy : AC Try.prog 16 0 [.int .i64 y] [] (.agg #[.int .i64 bx, .int .i64 b_y]) []) (hz : AC Try.prog 16 0 [.int .i64 z] [] (.agg #[.int .i64 cx, .int .i64 cy]) []) (ht : AC Try.prog 16 0 [.int .i64 t] [] (.agg #[.int .i64 dx, .int .i64 dy]) []) (bax : -40 ≤ ax) (cax : ax ≤ 40) (bay : -40 ≤ ay) (cay : ay ≤ 40) (bbx : -40 ≤ bx) (cbx : bx ≤ 40) (bb_y : -40 ≤ b_y) (cb_y : b_y ≤ 40) (bcx : -40 ≤ cx) (ccx : cx ≤ 40) (bcy : -40 ≤ cy) (ccy : cy ≤ 40) (bdx : -40 ≤ dx) (cdx : dx ≤ 40) (bdy : -40 ≤ dy) (cdy : dy ≤ 40) :
    AC Try.prog 3 0 ([.int .i64 x, .int .i64 y, .int .i64 z, .int .i64 t]) [] (.bool true) [] := by
  refine ac_in Try.func3 (fun w0 W pin => ?_)
  refine aw_p 3 (
    .a 1 1 <| .nil _ _) ?_
  refine aw_sq 6 7 ?_
  refine aw_p 13 (
    .p (does_c (terrkeep1_segBegun_ok)) <| .a 1 1 <| .nil _ _) ?_
  refine aw_fl 27 ?_
  refine aw_sk ?_
  refine then_normal ?_
  refine aw_p 15 (
    .a 1 1 <| .p (does_c (hx)) <| .a 1 1 <| .p (does_c (hy)) <| .a 1 1 <| .p (does_c (hz)) <| .a 1 1 <| .p (does_c (ht)) <| .a 8 1 <| .nil _ _) ?_
  refine aw_p 31 (
    .a 4 5 <| .p (does_c (segmeet_in ax ay bx b_y cx cy dx dy (by omega) (by omega) (by omega) (by omega) (by omega) (by omega) (by omega) (by omega) (by omega) (by omega) (by omega) (by omega) (by omega) (by omega) (by omega) (by omega))) <| .a 1 5 <| .nil _ _) ?_
  rcases Bool.eq_false_or_eq_true (decide (Sp.meetN ax ay bx b_y cx cy dx dy = 0)) with h1 | h1
  · have h1p : ((Sp.meetN ax ay bx b_y cx cy dx dy = 0)) := by first | (simpa using h1) | (have h1q := h1; simp at h1q; omega) | (have h1q := bx1 h1; simp at h1q; omega)
    refine aw_p 63 (
      .a 4 5 <| .p (does_c (segat0_in ax ay bx b_y cx cy dx dy (by omega) (by omega) (by omega) (by omega) (by omega) (by omega) (by omega) (by omega) (by omega) (by omega) (by omega) (by omega) (by omega) (by omega) (by omega) (by omega) (of_decide_eq_true h1))) <| .a 6 5 <| .nil _ _) ?_
    refine aw_p 127 (
      .a 4 6 <|
      .p (does_c (segat0_in dx dy cx cy ax ay bx b_y (by omega) (by omega) (by omega) (by omega) (by omega) (by omega) (by omega) (by omega) (by omega) (by omega) (by omega) (by omega) (by omega) (by omega) (by omega) (by omega) (by rw [Sp.meetN_flip cx cy dx dy ax ay bx b_y, Sp.meetN_swap ax ay bx b_y cx cy dx dy]; exact of_decide_eq_true h1))) <|
      .a 6 6 <| .nil _ _) ?_
    refine aw_p 255 (
      .a 4 7 <|
      .p (does_c (segat0_in bx b_y ax ay cx cy dx dy (by omega) (by omega) (by omega) (by omega) (by omega) (by omega) (by omega) (by omega) (by omega) (by omega) (by omega) (by omega) (by omega) (by omega) (by omega) (by omega) (by rw [Sp.meetN_flip ax ay bx b_y cx cy dx dy]; exact of_decide_eq_true h1))) <|
      .a 6 7 <| .nil _ _) ?_
    refine aw_p 511 (
      .a 5 8 <|
      .p (does_c ((by have q := segmeet_in cx cy dx dy ax ay bx b_y (by omega) (by omega) (by omega) (by omega) (by omega) (by omega) (by omega) (by omega) (by omega) (by omega) (by omega) (by omega) (by omega) (by omega) (by omega) (by omega); rw [Sp.meetN_swap ax ay bx b_y cx cy dx dy] at q; exact q))) <|
      .p (does_b true ((show ((Sp.meetN ax ay bx b_y cx cy dx dy) == (Sp.meetN ax ay bx b_y cx cy dx dy)) = true from by simp))) <| .a 6 8 <|
      .p (does_c ((by have q := segmeet_in bx b_y ax ay dx dy cx cy (by omega) (by omega) (by omega) (by omega) (by omega) (by omega) (by omega) (by omega) (by omega) (by omega) (by omega) (by omega) (by omega) (by omega) (by omega) (by omega); rw [Sp.meetN_flip ax ay bx b_y dx dy cx cy, ← Sp.meetN_swap ax ay bx b_y dx dy cx cy, Sp.meetN_flip cx cy dx dy ax ay bx b_y, Sp.meetN_swap ax ay bx b_y cx cy dx dy] at q; exact q))) <|
      .p (does_b true ((show ((Sp.meetN ax ay bx b_y cx cy dx dy) == (Sp.meetN ax ay bx b_y cx cy dx dy)) = true from by simp))) <| .a 4 8 <| .p (does_e true ((show (((0 == 0) && ((0 == 0) && true)) && (((0 == 0) && ((0 == 0) && true)) && true)) = true from by decide))) <| .a 4 8 <|
      .p (does_e true ((show (((0 == 0) && ((0 == 0) && true)) && (((0 == 0) && ((0 == 0) && true)) && true)) = true from by decide))) <| .a 13 8 <| .p (does_b false ((show ((Sp.meetN ax ay bx b_y cx cy dx dy) == 1) = false from (by rw [of_decide_eq_true h1]; decide)))) <| .a 6 8 <|
      .p (does_b true ((show ((Sp.meetN ax ay bx b_y cx cy dx dy) == 0) = true from (by rw [of_decide_eq_true h1]; decide)))) <| .a 6 8 <| .p (does_b false ((show ((Sp.meetN ax ay bx b_y cx cy dx dy) == 2) = false from (by rw [of_decide_eq_true h1]; decide)))) <| .a 5 8 <| .nil _ _) ?_
    refine aw_rt ?_
    exact en_ret [.bool true] (by kernel_rfl)
  · have h1p : ¬ ((Sp.meetN ax ay bx b_y cx cy dx dy = 0)) := by first | (simpa using h1) | (have h1q := h1; simp at h1q; omega) | (have h1q := bx2 h1; simp at h1q; omega)
    rcases Bool.eq_false_or_eq_true (decide (Sp.meetN ax ay bx b_y cx cy dx dy = 2)) with h2 | h2
    · have h2p : ((Sp.meetN ax ay bx b_y cx cy dx dy = 2)) := by first | (simpa using h2) | (have h2q := h2; simp at h2q; omega) | (have h2q := bx1 h2; simp at h2q; omega)
      refine aw_p 63 (
        .a 4 5 <| .p (does_c (segat2_in ax ay bx b_y cx cy dx dy (by omega) (by omega) (by omega) (by omega) (by omega) (by omega) (by omega) (by omega) (by omega) (by omega) (by omega) (by omega) (by omega) (by omega) (by omega) (by omega) (of_decide_eq_true h2))) <| .a 6 5 <| .nil _ _) ?_
      refine aw_p 127 (
        .a 4 6 <|
        .p (does_c (segat2_in dx dy cx cy ax ay bx b_y (by omega) (by omega) (by omega) (by omega) (by omega) (by omega) (by omega) (by omega) (by omega) (by omega) (by omega) (by omega) (by omega) (by omega) (by omega) (by omega) (by rw [Sp.meetN_flip cx cy dx dy ax ay bx b_y, Sp.meetN_swap ax ay bx b_y cx cy dx dy]; exact of_decide_eq_true h2))) <|
        .a 6 6 <| .nil _ _) ?_
      refine aw_p 255 (
        .a 4 7 <|
        .p (does_c (segat2_in bx b_y ax ay cx cy dx dy (by omega) (by omega) (by omega) (by omega) (by omega) (by omega) (by omega) (by omega) (by omega) (by omega) (by omega) (by omega) (by omega) (by omega) (by omega) (by omega) (by rw [Sp.meetN_flip ax ay bx b_y cx cy dx dy]; exact of_decide_eq_true h2))) <|
        .a 6 7 <| .nil _ _) ?_
      refine aw_p 511 (
        .a 5 8 <|
        .p (does_c ((by have q := segmeet_in cx cy dx dy ax ay bx b_y (by omega) (by omega) (by omega) (by omega) (by omega) (by omega) (by omega) (by omega) (by omega) (by omega) (by omega) (by omega) (by omega) (by omega) (by omega) (by omega); rw [Sp.meetN_swap ax ay bx b_y cx cy dx dy] at q; exact q))) <|
        .p (does_b true ((show ((Sp.meetN ax ay bx b_y cx cy dx dy) == (Sp.meetN ax ay bx b_y cx cy dx dy)) = true from by simp))) <| .a 6 8 <|
        .p (does_c ((by have q := segmeet_in bx b_y ax ay dx dy cx cy (by omega) (by omega) (by omega) (by omega) (by omega) (by omega) (by omega) (by omega) (by omega) (by omega) (by omega) (by omega) (by omega) (by omega) (by omega) (by omega); rw [Sp.meetN_flip ax ay bx b_y dx dy cx cy, ← Sp.meetN_swap ax ay bx b_y dx dy cx cy, Sp.meetN_flip cx cy dx dy ax ay bx b_y, Sp.meetN_swap ax ay bx b_y cx cy dx dy] at q; exact q))) <|
        .p (does_b true ((show ((Sp.meetN ax ay bx b_y cx cy dx dy) == (Sp.meetN ax ay bx b_y cx cy dx dy)) = true from by simp))) <| .a 4 8 <| .p (does_e true ((show (((0 == 0) && ((0 == 0) && true)) && (((0 == 0) && ((0 == 0) && true)) && true)) = true from by decide))) <| .a 4 8 <|
        .p (does_e true ((show (((0 == 0) && ((0 == 0) && true)) && (((0 == 0) && ((0 == 0) && true)) && true)) = true from by decide))) <| .a 13 8 <| .p (does_b false ((show ((Sp.meetN ax ay bx b_y cx cy dx dy) == 1) = false from (by rw [of_decide_eq_true h2]; decide)))) <| .a 6 8 <|
        .p (does_b false ((beq_eq_false_iff_ne.2 (of_decide_eq_false h1)))) <| .a 6 8 <| .p (does_b true ((show ((Sp.meetN ax ay bx b_y cx cy dx dy) == 2) = true from (by rw [of_decide_eq_true h2]; decide)))) <| .a 5 8 <| .nil _ _) ?_
      refine aw_rt ?_
      exact en_ret [.bool true] (by kernel_rfl)
    · have h2p : ¬ ((Sp.meetN ax ay bx b_y cx cy dx dy = 2)) := by first | (simpa using h2) | (have h2q := h2; simp at h2q; omega) | (have h2q := bx2 h2; simp at h2q; omega)
      rcases Bool.eq_false_or_eq_true (Sp.prp ax ay bx b_y cx cy dx dy) with h3 | h3
      · refine aw_p 63 (
          .a 4 5 <| .p (does_c (segatX_in ax ay bx b_y cx cy dx dy (by omega) (by omega) (by omega) (by omega) (by omega) (by omega) (by omega) (by omega) (by omega) (by omega) (by omega) (by omega) (by omega) (by omega) (by omega) (by omega) h3)) <| .a 6 5 <| .nil _ _) ?_
        refine aw_p 127 (
          .a 4 6 <|
          .p (does_c ((by have q := segatX_in dx dy cx cy ax ay bx b_y (by omega) (by omega) (by omega) (by omega) (by omega) (by omega) (by omega) (by omega) (by omega) (by omega) (by omega) (by omega) (by omega) (by omega) (by omega) (by omega) (by rw [Sp.prp_flip cx cy dx dy ax ay bx b_y, Sp.prp_swap ax ay bx b_y cx cy dx dy]; exact h3); rw [(Sp.cp_flip (show Sp.prp cx cy dx dy ax ay bx b_y = true by rw [Sp.prp_swap]; exact h3)).1, (Sp.cp_flip (show Sp.prp cx cy dx dy ax ay bx b_y = true by rw [Sp.prp_swap]; exact h3)).2, (Sp.cp_swap h3).1, (Sp.cp_swap h3).2] at q; exact q))) <|
          .a 6 6 <| .nil _ _) ?_
        refine aw_p 255 (
          .a 4 7 <|
          .p (does_c ((by have q := segatX_in bx b_y ax ay cx cy dx dy (by omega) (by omega) (by omega) (by omega) (by omega) (by omega) (by omega) (by omega) (by omega) (by omega) (by omega) (by omega) (by omega) (by omega) (by omega) (by omega) (by rw [Sp.prp_flip ax ay bx b_y cx cy dx dy]; exact h3); rw [(Sp.cp_flip h3).1, (Sp.cp_flip h3).2] at q; exact q))) <|
          .a 6 7 <| .nil _ _) ?_
        refine aw_p 511 (
          .a 5 8 <|
          .p (does_c ((by have q := segmeet_in cx cy dx dy ax ay bx b_y (by omega) (by omega) (by omega) (by omega) (by omega) (by omega) (by omega) (by omega) (by omega) (by omega) (by omega) (by omega) (by omega) (by omega) (by omega) (by omega); rw [Sp.meetN_swap ax ay bx b_y cx cy dx dy] at q; exact q))) <|
          .p (does_b true ((show ((Sp.meetN ax ay bx b_y cx cy dx dy) == (Sp.meetN ax ay bx b_y cx cy dx dy)) = true from by simp))) <| .a 6 8 <|
          .p (does_c ((by have q := segmeet_in bx b_y ax ay dx dy cx cy (by omega) (by omega) (by omega) (by omega) (by omega) (by omega) (by omega) (by omega) (by omega) (by omega) (by omega) (by omega) (by omega) (by omega) (by omega) (by omega); rw [Sp.meetN_flip ax ay bx b_y dx dy cx cy, ← Sp.meetN_swap ax ay bx b_y dx dy cx cy, Sp.meetN_flip cx cy dx dy ax ay bx b_y, Sp.meetN_swap ax ay bx b_y cx cy dx dy] at q; exact q))) <|
          .p (does_b true ((show ((Sp.meetN ax ay bx b_y cx cy dx dy) == (Sp.meetN ax ay bx b_y cx cy dx dy)) = true from by simp))) <| .a 4 8 <|
          .p (does_e true ((show ((((Sp.qn (Sp.cpx ax ay bx b_y cx cy dx dy)) == (Sp.qn (Sp.cpx ax ay bx b_y cx cy dx dy))) && (((Sp.qd (Sp.cpx ax ay bx b_y cx cy dx dy)) == (Sp.qd (Sp.cpx ax ay bx b_y cx cy dx dy))) && true)) && ((((Sp.qn (Sp.cpy ax ay bx b_y cx cy dx dy)) == (Sp.qn (Sp.cpy ax ay bx b_y cx cy dx dy))) && (((Sp.qd (Sp.cpy ax ay bx b_y cx cy dx dy)) == (Sp.qd (Sp.cpy ax ay bx b_y cx cy dx dy))) && true)) && true)) = true from by simp))) <|
          .a 4 8 <|
          .p (does_e true ((show ((((Sp.qn (Sp.cpx ax ay bx b_y cx cy dx dy)) == (Sp.qn (Sp.cpx ax ay bx b_y cx cy dx dy))) && (((Sp.qd (Sp.cpx ax ay bx b_y cx cy dx dy)) == (Sp.qd (Sp.cpx ax ay bx b_y cx cy dx dy))) && true)) && ((((Sp.qn (Sp.cpy ax ay bx b_y cx cy dx dy)) == (Sp.qn (Sp.cpy ax ay bx b_y cx cy dx dy))) && (((Sp.qd (Sp.cpy ax ay bx b_y cx cy dx dy)) == (Sp.qd (Sp.cpy ax ay bx b_y cx cy dx dy))) && true)) && true)) = true from by simp))) <|
          .a 13 8 <| .p (does_b true ((show ((Sp.meetN ax ay bx b_y cx cy dx dy) == 1) = true from (by rw [Sp.meetN_prp h3]; rfl)))) <| .a 6 8 <| .p (does_b false ((beq_eq_false_iff_ne.2 (of_decide_eq_false h1)))) <| .a 6 8 <| .p (does_b false ((beq_eq_false_iff_ne.2 (of_decide_eq_false h2)))) <| .a 5 8 <| .nil _ _) ?_
        refine aw_rt ?_
        exact en_ret [.bool true] (by kernel_rfl)
      · have hone := Sp.one_sp (of_decide_eq_false h1) (of_decide_eq_false h2) h3
        refine aw_p 63 (
          .a 4 5 <|
          .p (does_c (segat1_in ax ay bx b_y cx cy dx dy (by omega) (by omega) (by omega) (by omega) (by omega) (by omega) (by omega) (by omega) (by omega) (by omega) (by omega) (by omega) (by omega) (by omega) (by omega) (by omega) (Sp.spx ax ay bx b_y cx cy dx dy) (Sp.spy ax ay bx b_y cx cy dx dy) (Sp.one_sp (of_decide_eq_false h1) (of_decide_eq_false h2) h3))) <|
          .a 6 5 <| .nil _ _) ?_
        refine aw_p 127 (
          .a 4 6 <|
          .p (does_c (segat1_in dx dy cx cy ax ay bx b_y (by omega) (by omega) (by omega) (by omega) (by omega) (by omega) (by omega) (by omega) (by omega) (by omega) (by omega) (by omega) (by omega) (by omega) (by omega) (by omega) (Sp.spx ax ay bx b_y cx cy dx dy) (Sp.spy ax ay bx b_y cx cy dx dy) (Sp.one_flip (Sp.one_swap hone)))) <|
          .a 6 6 <| .nil _ _) ?_
        refine aw_p 255 (
          .a 4 7 <|
          .p (does_c (segat1_in bx b_y ax ay cx cy dx dy (by omega) (by omega) (by omega) (by omega) (by omega) (by omega) (by omega) (by omega) (by omega) (by omega) (by omega) (by omega) (by omega) (by omega) (by omega) (by omega) (Sp.spx ax ay bx b_y cx cy dx dy) (Sp.spy ax ay bx b_y cx cy dx dy) (Sp.one_flip hone))) <|
          .a 6 7 <| .nil _ _) ?_
        refine aw_p 511 (
          .a 5 8 <|
          .p (does_c ((by have q := segmeet_in cx cy dx dy ax ay bx b_y (by omega) (by omega) (by omega) (by omega) (by omega) (by omega) (by omega) (by omega) (by omega) (by omega) (by omega) (by omega) (by omega) (by omega) (by omega) (by omega); rw [Sp.meetN_swap ax ay bx b_y cx cy dx dy] at q; exact q))) <|
          .p (does_b true ((show ((Sp.meetN ax ay bx b_y cx cy dx dy) == (Sp.meetN ax ay bx b_y cx cy dx dy)) = true from by simp))) <| .a 6 8 <|
          .p (does_c ((by have q := segmeet_in bx b_y ax ay dx dy cx cy (by omega) (by omega) (by omega) (by omega) (by omega) (by omega) (by omega) (by omega) (by omega) (by omega) (by omega) (by omega) (by omega) (by omega) (by omega) (by omega); rw [Sp.meetN_flip ax ay bx b_y dx dy cx cy, ← Sp.meetN_swap ax ay bx b_y dx dy cx cy, Sp.meetN_flip cx cy dx dy ax ay bx b_y, Sp.meetN_swap ax ay bx b_y cx cy dx dy] at q; exact q))) <|
          .p (does_b true ((show ((Sp.meetN ax ay bx b_y cx cy dx dy) == (Sp.meetN ax ay bx b_y cx cy dx dy)) = true from by simp))) <| .a 4 8 <|
          .p (does_e true ((show ((((Sp.spx ax ay bx b_y cx cy dx dy) == (Sp.spx ax ay bx b_y cx cy dx dy)) && ((1 == 1) && true)) && ((((Sp.spy ax ay bx b_y cx cy dx dy) == (Sp.spy ax ay bx b_y cx cy dx dy)) && ((1 == 1) && true)) && true)) = true from by simp))) <| .a 4 8 <|
          .p (does_e true ((show ((((Sp.spx ax ay bx b_y cx cy dx dy) == (Sp.spx ax ay bx b_y cx cy dx dy)) && ((1 == 1) && true)) && ((((Sp.spy ax ay bx b_y cx cy dx dy) == (Sp.spy ax ay bx b_y cx cy dx dy)) && ((1 == 1) && true)) && true)) = true from by simp))) <| .a 13 8 <|
          .p (does_b true ((show ((Sp.meetN ax ay bx b_y cx cy dx dy) == 1) = true from (by rw [Sp.meetN_one hone]; rfl)))) <| .a 6 8 <| .p (does_b false ((beq_eq_false_iff_ne.2 (of_decide_eq_false h1)))) <| .a 6 8 <| .p (does_b false ((beq_eq_false_iff_ne.2 (of_decide_eq_false h2)))) <| .a 5 8 <| .nil _ _) ?_
        refine aw_rt ?_
        exact en_ret [.bool true] (by kernel_rfl)


end Go.Proofs.Ytigllakcfdoagaa.Am
