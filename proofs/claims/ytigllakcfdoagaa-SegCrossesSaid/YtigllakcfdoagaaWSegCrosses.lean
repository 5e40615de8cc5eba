/-
  The walk of the law SegCrosses.
-/
import Derived.Test.YtigllakcfdoagaaProg
import Derived.Test.YtigllakcfdoagaaAm16
import Derived.Test.YtigllakcfdoagaaSg14
import Derived.Test.YtigllakcfdoagaaSg12
import Derived.Test.YtigllakcfdoagaaSg10
namespace Go.Proofs.Ytigllakcfdoagaa.Am
open Go Go.Proofs
set_option maxRecDepth 100000
set_option maxHeartbeats 4000000
set_option linter.unusedVariables false
set_option linter.unusedSimpArgs false

theorem segCrosses_walk (x y z t ax ay bx b_y cx cy dx dy : Int) (hx : AC Try.prog 16 0 [.int .i64 x] [] (.agg #[.int .i64 ax, .int .i64 ay]) []) (hy : AC Try.prog 16 0 [.int .i64 y] [] (.agg #[.int .i64 bx, .int .i64 b_y]) []) (hz : AC Try.prog 16 0 [.int .i64 z] [] (.agg #[.int .i64 cx, .int .i64 cy]) []) (ht : AC Try.prog 16 0 [.int .i64 t] [] (.agg #[.int .i64 dx, .int .i64 dy]) []) (bax : -40 ≤ ax) (cax : ax ≤ 40) (bay : -40 ≤ ay) (cay : ay ≤ 40) (bbx : -40 ≤ bx) (cbx : bx ≤ 40) (bb_y : -40 ≤ b_y) (cb_y : b_y ≤ 40) (bcx : -40 ≤ cx) (ccx : cx ≤ 40) (bcy : -40 ≤ cy) (ccy : cy ≤ 40) (bdx : -40 ≤ dx) (cdx : dx ≤ 40) (bdy : -40 ≤ dy) (cdy : dy ≤ 40) :
    AC Try.prog 7 0 ([.int .i64 x, .int .i64 y, .int .i64 z, .int .i64 t]) [] (.bool true) [] := by
  refine ac_in Try.func7 (fun w0 W pin => ?_)
  refine aw_p 3 (
    .a 1 1 <| .nil _ _) ?_
  refine aw_sq 6 7 ?_
  refine aw_p 13 (
    .p (does_c (terrkeep1_segBegun_ok)) <| .a 1 1 <| .nil _ _) ?_
  refine aw_fl 27 ?_
  refine aw_sk ?_
  refine then_normal ?_
  refine aw_p 15 (
    .a 1 1 <| .p (does_c (hx)) <| .a 1 1 <| .p (does_c (hy)) <| .a 1 1 <| .p (does_c (hz)) <| .a 1 1 <| .p (does_c (ht)) <| .a 8 1 <| .nil _ _) ?_
  rcases Bool.eq_false_or_eq_true (decide (Sp.meetN ax ay bx b_y cx cy dx dy = 0)) with h1 | h1
  · have h1p : ((Sp.meetN ax ay bx b_y cx cy dx dy = 0)) := by first | (simpa using h1) | (have h1q := h1; simp at h1q; omega) | (have h1q := bx1 h1; simp at h1q; omega)
    refine aw_p 31 (
      .a 4 5 <| .p (does_c (segat0_in ax ay bx b_y cx cy dx dy (by omega) (by omega) (by omega) (by omega) (by omega) (by omega) (by omega) (by omega) (by omega) (by omega) (by omega) (by omega) (by omega) (by omega) (by omega) (by omega) (of_decide_eq_true h1))) <| .a 6 5 <| .nil _ _) ?_
    refine aw_sq 62 63 ?_
    refine aw_p 125 (
      .a 2 6 <| .nil _ _) ?_
    refine aw_tr 250 ?_
    refine aw_p 501 (
      .a 2 6 <| .p (does_e true ((show (((0 == 0) && ((0 == 0) && true)) && (((0 == 0) && ((0 == 0) && true)) && true)) = true from by decide))) <| .a 1 6 <| .nil _ _) ?_
    refine aw_rt ?_
    refine then_ret ?_
    exact en_ret [.bool true] (by kernel_rfl)
  · have h1p : ¬ ((Sp.meetN ax ay bx b_y cx cy dx dy = 0)) := by first | (simpa using h1) | (have h1q := h1; simp at h1q; omega) | (have h1q := bx2 h1; simp at h1q; omega)
    rcases Bool.eq_false_or_eq_true (decide (Sp.meetN ax ay bx b_y cx cy dx dy = 2)) with h2 | h2
    · have h2p : ((Sp.meetN ax ay bx b_y cx cy dx dy = 2)) := by first | (simpa using h2) | (have h2q := h2; simp at h2q; omega) | (have h2q := bx1 h2; simp at h2q; omega)
      refine aw_p 31 (
        .a 4 5 <| .p (does_c (segat2_in ax ay bx b_y cx cy dx dy (by omega) (by omega) (by omega) (by omega) (by omega) (by omega) (by omega) (by omega) (by omega) (by omega) (by omega) (by omega) (by omega) (by omega) (by omega) (by omega) (of_decide_eq_true h2))) <| .a 6 5 <| .nil _ _) ?_
      refine aw_sq 62 63 ?_
      refine aw_p 125 (
        .a 2 6 <| .nil _ _) ?_
      refine aw_tr 250 ?_
      refine aw_p 501 (
        .a 2 6 <| .p (does_e true ((show (((0 == 0) && ((0 == 0) && true)) && (((0 == 0) && ((0 == 0) && true)) && true)) = true from by decide))) <| .a 1 6 <| .nil _ _) ?_
      refine aw_rt ?_
      refine then_ret ?_
      exact en_ret [.bool true] (by kernel_rfl)
    · have h2p : ¬ ((Sp.meetN ax ay bx b_y cx cy dx dy = 2)) := by first | (simpa using h2) | (have h2q := h2; simp at h2q; omega) | (have h2q := bx2 h2; simp at h2q; omega)
      rcases Bool.eq_false_or_eq_true (Sp.prp ax ay bx b_y cx cy dx dy) with h3 | h3
      · have cb := Sp.cp40 h3 (by omega) (by omega) (by omega) (by omega) (by omega) (by omega) (by omega) (by omega) (by omega) (by omega) (by omega) (by omega) (by omega) (by omega) (by omega) (by omega)
        refine aw_p 31 (
          .a 4 5 <| .p (does_c (segatX_in ax ay bx b_y cx cy dx dy (by omega) (by omega) (by omega) (by omega) (by omega) (by omega) (by omega) (by omega) (by omega) (by omega) (by omega) (by omega) (by omega) (by omega) (by omega) (by omega) h3)) <| .a 6 5 <| .nil _ _) ?_
        refine aw_sq 62 63 ?_
        refine aw_p 125 (
          .a 2 6 <| .nil _ _) ?_
        refine aw_fl 251 ?_
        refine aw_sk ?_
        refine then_normal ?_
        refine aw_p 127 (
          .a 1 6 <| .nil _ _) ?_
        refine aw_p 255 (
          .a 1 6 <|
          .p (does_c ((by have h := segsnap_ok (Sp.qn (Sp.cpx ax ay bx b_y cx cy dx dy)) (Sp.qd (Sp.cpx ax ay bx b_y cx cy dx dy)) (by have := Sp.qn_bd (Sp.cpx ax ay bx b_y cx cy dx dy); omega) (by have := Sp.qn_bd (Sp.cpx ax ay bx b_y cx cy dx dy); omega) (by have := Sp.qd_bd (Sp.cpx ax ay bx b_y cx cy dx dy); omega) (by have := Sp.qd_bd (Sp.cpx ax ay bx b_y cx cy dx dy); omega) (Sp.qn (Sp.cpy ax ay bx b_y cx cy dx dy)) (Sp.qd (Sp.cpy ax ay bx b_y cx cy dx dy)) (by have := Sp.qn_bd (Sp.cpy ax ay bx b_y cx cy dx dy); omega) (by have := Sp.qn_bd (Sp.cpy ax ay bx b_y cx cy dx dy); omega) (by have := Sp.qd_bd (Sp.cpy ax ay bx b_y cx cy dx dy); omega) (by have := Sp.qd_bd (Sp.cpy ax ay bx b_y cx cy dx dy); omega); rw [(Sp.rv_fit (q := (Sp.cpx ax ay bx b_y cx cy dx dy)) (Sp.bd_fit cb.1.1 (by decide) (by decide))), (Sp.rv_fit (q := (Sp.cpy ax ay bx b_y cx cy dx dy)) (Sp.bd_fit cb.1.2 (by decide) (by decide))), Sp.lim_id (m := 1048576) (n := Sp.rnd (Sp.cpx ax ay bx b_y cx cy dx dy)) (by omega) (by omega), Sp.lim_id (m := 1048576) (n := Sp.rnd (Sp.cpy ax ay bx b_y cx cy dx dy)) (by omega) (by omega)] at h; exact h))) <|
          .a 2 6 <| .nil _ _) ?_
        refine aw_p 511 (
          .p (does_c ((by have h := fmake_ok 1 2 (by decide) (by decide) (by decide) (by decide); rw [show Sp.dvn ((1 : Int) : Rat) ((2 : Int) : Rat) = 1 from by decide +kernel, show Sp.dvd ((1 : Int) : Rat) ((2 : Int) : Rat) = 2 from by decide +kernel, show Sp.dve ((1 : Int) : Rat) ((2 : Int) : Rat) = 0 from by decide +kernel] at h; exact h))) <|
          .a 6 7 <| .nil _ _) ?_
        refine aw_d 1023 (
          .a 4 8 <| .p (does_c ((by have h := fof_ok (Sp.rnd (Sp.cpx ax ay bx b_y cx cy dx dy)); rw [Sp.mx_id (by omega)] at h; exact h))) <|
          .p (does_c ((by have h := fsub_ok (Sp.qn (Sp.cpx ax ay bx b_y cx cy dx dy)) (Sp.qd (Sp.cpx ax ay bx b_y cx cy dx dy)) (by have := Sp.qn_bd (Sp.cpx ax ay bx b_y cx cy dx dy); omega) (by have := Sp.qn_bd (Sp.cpx ax ay bx b_y cx cy dx dy); omega) (by have := Sp.qd_bd (Sp.cpx ax ay bx b_y cx cy dx dy); omega) (by have := Sp.qd_bd (Sp.cpx ax ay bx b_y cx cy dx dy); omega) (Sp.rnd (Sp.cpx ax ay bx b_y cx cy dx dy)) 1 (by omega) (by omega) (by decide) (by decide); rw [(Sp.rv_fit (q := (Sp.cpx ax ay bx b_y cx cy dx dy)) (Sp.bd_fit cb.1.1 (by decide) (by decide))), (Sp.rv_int (Sp.rnd (Sp.cpx ax ay bx b_y cx cy dx dy)) (by omega)), (Sp.qe_fit (q := ((Sp.cpx ax ay bx b_y cx cy dx dy) + (-((Sp.rnd (Sp.cpx ax ay bx b_y cx cy dx dy) : Int) : Rat)))) (Sp.bd_fit (Sp.Bd.add cb.1.1 (Sp.Bd.neg (Sp.Bd.mono (N' := 40) (D' := 1) (Sp.Bd.int (Sp.rnd (Sp.cpx ax ay bx b_y cx cy dx dy))) (by omega) (by decide)))) (by decide) (by decide)))] at h; exact h))) <|
          .a 6 8 <| .nil _ _) ?_
        refine aw_d 2047 (
          .a 4 9 <| .p (does_c ((by have h := fof_ok (Sp.rnd (Sp.cpy ax ay bx b_y cx cy dx dy)); rw [Sp.mx_id (by omega)] at h; exact h))) <|
          .p (does_c ((by have h := fsub_ok (Sp.qn (Sp.cpy ax ay bx b_y cx cy dx dy)) (Sp.qd (Sp.cpy ax ay bx b_y cx cy dx dy)) (by have := Sp.qn_bd (Sp.cpy ax ay bx b_y cx cy dx dy); omega) (by have := Sp.qn_bd (Sp.cpy ax ay bx b_y cx cy dx dy); omega) (by have := Sp.qd_bd (Sp.cpy ax ay bx b_y cx cy dx dy); omega) (by have := Sp.qd_bd (Sp.cpy ax ay bx b_y cx cy dx dy); omega) (Sp.rnd (Sp.cpy ax ay bx b_y cx cy dx dy)) 1 (by omega) (by omega) (by decide) (by decide); rw [(Sp.rv_fit (q := (Sp.cpy ax ay bx b_y cx cy dx dy)) (Sp.bd_fit cb.1.2 (by decide) (by decide))), (Sp.rv_int (Sp.rnd (Sp.cpy ax ay bx b_y cx cy dx dy)) (by omega)), (Sp.qe_fit (q := ((Sp.cpy ax ay bx b_y cx cy dx dy) + (-((Sp.rnd (Sp.cpy ax ay bx b_y cx cy dx dy) : Int) : Rat)))) (Sp.bd_fit (Sp.Bd.add cb.1.2 (Sp.Bd.neg (Sp.Bd.mono (N' := 40) (D' := 1) (Sp.Bd.int (Sp.rnd (Sp.cpy ax ay bx b_y cx cy dx dy))) (by omega) (by decide)))) (by decide) (by decide)))] at h; exact h))) <|
          .a 6 9 <| .nil _ _) ?_
        refine aw_d 4095 (
          .a 14 10 <|
          .p (does_cb _ ((by have h := segin_ok (Sp.qn (Sp.cpx ax ay bx b_y cx cy dx dy)) (Sp.qd (Sp.cpx ax ay bx b_y cx cy dx dy)) (by have := Sp.qn_bd (Sp.cpx ax ay bx b_y cx cy dx dy); omega) (by have := Sp.qn_bd (Sp.cpx ax ay bx b_y cx cy dx dy); omega) (by have := Sp.qd_bd (Sp.cpx ax ay bx b_y cx cy dx dy); omega) (by have := Sp.qd_bd (Sp.cpx ax ay bx b_y cx cy dx dy); omega) ax bx (by omega) (by omega) (by omega) (by omega); rw [(Sp.rv_fit (q := (Sp.cpx ax ay bx b_y cx cy dx dy)) (Sp.bd_fit cb.1.1 (by decide) (by decide)))] at h; exact h)) true ((Sp.cp_in h3).1.1)) <|
          .a 9 10 <|
          .p (does_cb _ ((by have h := segin_ok (Sp.qn (Sp.cpy ax ay bx b_y cx cy dx dy)) (Sp.qd (Sp.cpy ax ay bx b_y cx cy dx dy)) (by have := Sp.qn_bd (Sp.cpy ax ay bx b_y cx cy dx dy); omega) (by have := Sp.qn_bd (Sp.cpy ax ay bx b_y cx cy dx dy); omega) (by have := Sp.qd_bd (Sp.cpy ax ay bx b_y cx cy dx dy); omega) (by have := Sp.qd_bd (Sp.cpy ax ay bx b_y cx cy dx dy); omega) ay b_y (by omega) (by omega) (by omega) (by omega); rw [(Sp.rv_fit (q := (Sp.cpy ax ay bx b_y cx cy dx dy)) (Sp.bd_fit cb.1.2 (by decide) (by decide)))] at h; exact h)) true ((Sp.cp_in h3).1.2)) <|
          .a 9 10 <|
          .p (does_cb _ ((by have h := segin_ok (Sp.qn (Sp.cpx ax ay bx b_y cx cy dx dy)) (Sp.qd (Sp.cpx ax ay bx b_y cx cy dx dy)) (by have := Sp.qn_bd (Sp.cpx ax ay bx b_y cx cy dx dy); omega) (by have := Sp.qn_bd (Sp.cpx ax ay bx b_y cx cy dx dy); omega) (by have := Sp.qd_bd (Sp.cpx ax ay bx b_y cx cy dx dy); omega) (by have := Sp.qd_bd (Sp.cpx ax ay bx b_y cx cy dx dy); omega) cx dx (by omega) (by omega) (by omega) (by omega); rw [(Sp.rv_fit (q := (Sp.cpx ax ay bx b_y cx cy dx dy)) (Sp.bd_fit cb.1.1 (by decide) (by decide)))] at h; exact h)) true ((Sp.cp_in h3).2.1)) <|
          .a 9 10 <|
          .p (does_cb _ ((by have h := segin_ok (Sp.qn (Sp.cpy ax ay bx b_y cx cy dx dy)) (Sp.qd (Sp.cpy ax ay bx b_y cx cy dx dy)) (by have := Sp.qn_bd (Sp.cpy ax ay bx b_y cx cy dx dy); omega) (by have := Sp.qn_bd (Sp.cpy ax ay bx b_y cx cy dx dy); omega) (by have := Sp.qd_bd (Sp.cpy ax ay bx b_y cx cy dx dy); omega) (by have := Sp.qd_bd (Sp.cpy ax ay bx b_y cx cy dx dy); omega) cy dy (by omega) (by omega) (by omega) (by omega); rw [(Sp.rv_fit (q := (Sp.cpy ax ay bx b_y cx cy dx dy)) (Sp.bd_fit cb.1.2 (by decide) (by decide)))] at h; exact h)) true ((Sp.cp_in h3).2.2)) <|
          .a 3 10 <|
          .p (does_c ((by have h := fabs_ok (Sp.qn ((Sp.cpx ax ay bx b_y cx cy dx dy) + (-((Sp.rnd (Sp.cpx ax ay bx b_y cx cy dx dy) : Int) : Rat)))) (Sp.qd ((Sp.cpx ax ay bx b_y cx cy dx dy) + (-((Sp.rnd (Sp.cpx ax ay bx b_y cx cy dx dy) : Int) : Rat)))) (by have := Sp.qn_bd ((Sp.cpx ax ay bx b_y cx cy dx dy) + (-((Sp.rnd (Sp.cpx ax ay bx b_y cx cy dx dy) : Int) : Rat))); omega) (by have := Sp.qn_bd ((Sp.cpx ax ay bx b_y cx cy dx dy) + (-((Sp.rnd (Sp.cpx ax ay bx b_y cx cy dx dy) : Int) : Rat))); omega) (by have := Sp.qd_bd ((Sp.cpx ax ay bx b_y cx cy dx dy) + (-((Sp.rnd (Sp.cpx ax ay bx b_y cx cy dx dy) : Int) : Rat))); omega) (by have := Sp.qd_bd ((Sp.cpx ax ay bx b_y cx cy dx dy) + (-((Sp.rnd (Sp.cpx ax ay bx b_y cx cy dx dy) : Int) : Rat))); omega); rw [(Sp.rv_fit (q := ((Sp.cpx ax ay bx b_y cx cy dx dy) + (-((Sp.rnd (Sp.cpx ax ay bx b_y cx cy dx dy) : Int) : Rat)))) (Sp.bd_fit (Sp.Bd.add cb.1.1 (Sp.Bd.neg (Sp.Bd.mono (N' := 40) (D' := 1) (Sp.Bd.int (Sp.rnd (Sp.cpx ax ay bx b_y cx cy dx dy))) (by omega) (by decide)))) (by decide) (by decide)))] at h; exact h))) <|
          .a 1 10 <|
          .p (does_c ((by have h := fcmp_ok (Sp.qn (Sp.rabs ((Sp.cpx ax ay bx b_y cx cy dx dy) + (-((Sp.rnd (Sp.cpx ax ay bx b_y cx cy dx dy) : Int) : Rat))))) (Sp.qd (Sp.rabs ((Sp.cpx ax ay bx b_y cx cy dx dy) + (-((Sp.rnd (Sp.cpx ax ay bx b_y cx cy dx dy) : Int) : Rat))))) (by have := Sp.qn_bd (Sp.rabs ((Sp.cpx ax ay bx b_y cx cy dx dy) + (-((Sp.rnd (Sp.cpx ax ay bx b_y cx cy dx dy) : Int) : Rat)))); omega) (by have := Sp.qn_bd (Sp.rabs ((Sp.cpx ax ay bx b_y cx cy dx dy) + (-((Sp.rnd (Sp.cpx ax ay bx b_y cx cy dx dy) : Int) : Rat)))); omega) (by have := Sp.qd_bd (Sp.rabs ((Sp.cpx ax ay bx b_y cx cy dx dy) + (-((Sp.rnd (Sp.cpx ax ay bx b_y cx cy dx dy) : Int) : Rat)))); omega) (by have := Sp.qd_bd (Sp.rabs ((Sp.cpx ax ay bx b_y cx cy dx dy) + (-((Sp.rnd (Sp.cpx ax ay bx b_y cx cy dx dy) : Int) : Rat)))); omega) 1 2 (by decide) (by decide) (by decide) (by decide); rw [(Sp.rv_fit (q := (Sp.rabs ((Sp.cpx ax ay bx b_y cx cy dx dy) + (-((Sp.rnd (Sp.cpx ax ay bx b_y cx cy dx dy) : Int) : Rat))))) (Sp.fitq_abs (Sp.bd_fit (Sp.Bd.add cb.1.1 (Sp.Bd.neg (Sp.Bd.mono (N' := 40) (D' := 1) (Sp.Bd.int (Sp.rnd (Sp.cpx ax ay bx b_y cx cy dx dy))) (by omega) (by decide)))) (by decide) (by decide))))] at h; exact h))) <|
          .p (does_b true (((Sp.rcmp_le (Sp.rabs ((Sp.cpx ax ay bx b_y cx cy dx dy) + (-((Sp.rnd (Sp.cpx ax ay bx b_y cx cy dx dy) : Int) : Rat)))) (Sp.rv 1 2))).trans ((decide_eq_true (Sp.rnd_half _))))) <| .a 3 10 <|
          .p (does_c ((by have h := fabs_ok (Sp.qn ((Sp.cpy ax ay bx b_y cx cy dx dy) + (-((Sp.rnd (Sp.cpy ax ay bx b_y cx cy dx dy) : Int) : Rat)))) (Sp.qd ((Sp.cpy ax ay bx b_y cx cy dx dy) + (-((Sp.rnd (Sp.cpy ax ay bx b_y cx cy dx dy) : Int) : Rat)))) (by have := Sp.qn_bd ((Sp.cpy ax ay bx b_y cx cy dx dy) + (-((Sp.rnd (Sp.cpy ax ay bx b_y cx cy dx dy) : Int) : Rat))); omega) (by have := Sp.qn_bd ((Sp.cpy ax ay bx b_y cx cy dx dy) + (-((Sp.rnd (Sp.cpy ax ay bx b_y cx cy dx dy) : Int) : Rat))); omega) (by have := Sp.qd_bd ((Sp.cpy ax ay bx b_y cx cy dx dy) + (-((Sp.rnd (Sp.cpy ax ay bx b_y cx cy dx dy) : Int) : Rat))); omega) (by have := Sp.qd_bd ((Sp.cpy ax ay bx b_y cx cy dx dy) + (-((Sp.rnd (Sp.cpy ax ay bx b_y cx cy dx dy) : Int) : Rat))); omega); rw [(Sp.rv_fit (q := ((Sp.cpy ax ay bx b_y cx cy dx dy) + (-((Sp.rnd (Sp.cpy ax ay bx b_y cx cy dx dy) : Int) : Rat)))) (Sp.bd_fit (Sp.Bd.add cb.1.2 (Sp.Bd.neg (Sp.Bd.mono (N' := 40) (D' := 1) (Sp.Bd.int (Sp.rnd (Sp.cpy ax ay bx b_y cx cy dx dy))) (by omega) (by decide)))) (by decide) (by decide)))] at h; exact h))) <|
          .a 1 10 <|
          .p (does_c ((by have h := fcmp_ok (Sp.qn (Sp.rabs ((Sp.cpy ax ay bx b_y cx cy dx dy) + (-((Sp.rnd (Sp.cpy ax ay bx b_y cx cy dx dy) : Int) : Rat))))) (Sp.qd (Sp.rabs ((Sp.cpy ax ay bx b_y cx cy dx dy) + (-((Sp.rnd (Sp.cpy ax ay bx b_y cx cy dx dy) : Int) : Rat))))) (by have := Sp.qn_bd (Sp.rabs ((Sp.cpy ax ay bx b_y cx cy dx dy) + (-((Sp.rnd (Sp.cpy ax ay bx b_y cx cy dx dy) : Int) : Rat)))); omega) (by have := Sp.qn_bd (Sp.rabs ((Sp.cpy ax ay bx b_y cx cy dx dy) + (-((Sp.rnd (Sp.cpy ax ay bx b_y cx cy dx dy) : Int) : Rat)))); omega) (by have := Sp.qd_bd (Sp.rabs ((Sp.cpy ax ay bx b_y cx cy dx dy) + (-((Sp.rnd (Sp.cpy ax ay bx b_y cx cy dx dy) : Int) : Rat)))); omega) (by have := Sp.qd_bd (Sp.rabs ((Sp.cpy ax ay bx b_y cx cy dx dy) + (-((Sp.rnd (Sp.cpy ax ay bx b_y cx cy dx dy) : Int) : Rat)))); omega) 1 2 (by decide) (by decide) (by decide) (by decide); rw [(Sp.rv_fit (q := (Sp.rabs ((Sp.cpy ax ay bx b_y cx cy dx dy) + (-((Sp.rnd (Sp.cpy ax ay bx b_y cx cy dx dy) : Int) : Rat))))) (Sp.fitq_abs (Sp.bd_fit (Sp.Bd.add cb.1.2 (Sp.Bd.neg (Sp.Bd.mono (N' := 40) (D' := 1) (Sp.Bd.int (Sp.rnd (Sp.cpy ax ay bx b_y cx cy dx dy))) (by omega) (by decide)))) (by decide) (by decide))))] at h; exact h))) <|
          .p (does_b true (((Sp.rcmp_le (Sp.rabs ((Sp.cpy ax ay bx b_y cx cy dx dy) + (-((Sp.rnd (Sp.cpy ax ay bx b_y cx cy dx dy) : Int) : Rat)))) (Sp.rv 1 2))).trans ((decide_eq_true (Sp.rnd_half _))))) <| .a 2 10 <| .nil _ _) ?_
        refine aw_rt ?_
        exact en_ret [.bool true] (by kernel_rfl)
      · have hone := Sp.one_sp (of_decide_eq_false h1) (of_decide_eq_false h2) h3
        have zb := Sp.one40 hone (by omega) (by omega) (by omega) (by omega) (by omega) (by omega) (by omega) (by omega) (by omega) (by omega) (by omega) (by omega) (by omega) (by omega) (by omega) (by omega)
        refine aw_p 31 (
          .a 4 5 <|
          .p (does_c (segat1_in ax ay bx b_y cx cy dx dy (by omega) (by omega) (by omega) (by omega) (by omega) (by omega) (by omega) (by omega) (by omega) (by omega) (by omega) (by omega) (by omega) (by omega) (by omega) (by omega) (Sp.spx ax ay bx b_y cx cy dx dy) (Sp.spy ax ay bx b_y cx cy dx dy) (Sp.one_sp (of_decide_eq_false h1) (of_decide_eq_false h2) h3))) <|
          .a 6 5 <| .nil _ _) ?_
        refine aw_sq 62 63 ?_
        refine aw_p 125 (
          .a 2 6 <| .nil _ _) ?_
        refine aw_fl 251 ?_
        refine aw_sk ?_
        refine then_normal ?_
        refine aw_p 127 (
          .a 1 6 <| .nil _ _) ?_
        refine aw_p 255 (
          .a 1 6 <|
          .p (does_c ((by have h := segsnap_ok (Sp.spx ax ay bx b_y cx cy dx dy) 1 (by omega) (by omega) (by decide) (by decide) (Sp.spy ax ay bx b_y cx cy dx dy) 1 (by omega) (by omega) (by decide) (by decide); rw [(Sp.rv_int (Sp.spx ax ay bx b_y cx cy dx dy) (by omega)), (Sp.rv_int (Sp.spy ax ay bx b_y cx cy dx dy) (by omega)), Sp.rnd_int (Sp.spx ax ay bx b_y cx cy dx dy), Sp.rnd_int (Sp.spy ax ay bx b_y cx cy dx dy), Sp.lim_id (m := 1048576) (n := Sp.spx ax ay bx b_y cx cy dx dy) (by omega) (by omega), Sp.lim_id (m := 1048576) (n := Sp.spy ax ay bx b_y cx cy dx dy) (by omega) (by omega)] at h; exact h))) <|
          .a 2 6 <| .nil _ _) ?_
        refine aw_p 511 (
          .p (does_c ((by have h := fmake_ok 1 2 (by decide) (by decide) (by decide) (by decide); rw [show Sp.dvn ((1 : Int) : Rat) ((2 : Int) : Rat) = 1 from by decide +kernel, show Sp.dvd ((1 : Int) : Rat) ((2 : Int) : Rat) = 2 from by decide +kernel, show Sp.dve ((1 : Int) : Rat) ((2 : Int) : Rat) = 0 from by decide +kernel] at h; exact h))) <|
          .a 6 7 <| .nil _ _) ?_
        refine aw_d 1023 (
          .a 4 8 <| .p (does_c ((by have h := fof_ok (Sp.spx ax ay bx b_y cx cy dx dy); rw [Sp.mx_id (by omega)] at h; exact h))) <|
          .p (does_c ((by have h := fsub_ok (Sp.spx ax ay bx b_y cx cy dx dy) 1 (by omega) (by omega) (by decide) (by decide) (Sp.spx ax ay bx b_y cx cy dx dy) 1 (by omega) (by omega) (by decide) (by decide); rw [(Sp.rv_int (Sp.spx ax ay bx b_y cx cy dx dy) (by omega)), (Sp.qe_fit (q := (((Sp.spx ax ay bx b_y cx cy dx dy : Int) : Rat) + (-((Sp.spx ax ay bx b_y cx cy dx dy : Int) : Rat)))) (Sp.bd_fit (Sp.Bd.add (Sp.Bd.mono (N' := 40) (D' := 1) (Sp.Bd.int (Sp.spx ax ay bx b_y cx cy dx dy)) (by omega) (by decide)) (Sp.Bd.neg (Sp.Bd.mono (N' := 40) (D' := 1) (Sp.Bd.int (Sp.spx ax ay bx b_y cx cy dx dy)) (by omega) (by decide)))) (by decide) (by decide)))] at h; exact h))) <|
          .a 6 8 <| .nil _ _) ?_
        refine aw_d 2047 (
          .a 4 9 <| .p (does_c ((by have h := fof_ok (Sp.spy ax ay bx b_y cx cy dx dy); rw [Sp.mx_id (by omega)] at h; exact h))) <|
          .p (does_c ((by have h := fsub_ok (Sp.spy ax ay bx b_y cx cy dx dy) 1 (by omega) (by omega) (by decide) (by decide) (Sp.spy ax ay bx b_y cx cy dx dy) 1 (by omega) (by omega) (by decide) (by decide); rw [(Sp.rv_int (Sp.spy ax ay bx b_y cx cy dx dy) (by omega)), (Sp.qe_fit (q := (((Sp.spy ax ay bx b_y cx cy dx dy : Int) : Rat) + (-((Sp.spy ax ay bx b_y cx cy dx dy : Int) : Rat)))) (Sp.bd_fit (Sp.Bd.add (Sp.Bd.mono (N' := 40) (D' := 1) (Sp.Bd.int (Sp.spy ax ay bx b_y cx cy dx dy)) (by omega) (by decide)) (Sp.Bd.neg (Sp.Bd.mono (N' := 40) (D' := 1) (Sp.Bd.int (Sp.spy ax ay bx b_y cx cy dx dy)) (by omega) (by decide)))) (by decide) (by decide)))] at h; exact h))) <|
          .a 6 9 <| .nil _ _) ?_
        refine aw_d 4095 (
          .a 14 10 <| .p (does_cb _ ((by have h := segin_ok (Sp.spx ax ay bx b_y cx cy dx dy) 1 (by omega) (by omega) (by decide) (by decide) ax bx (by omega) (by omega) (by omega) (by omega); rw [(Sp.rv_int (Sp.spx ax ay bx b_y cx cy dx dy) (by omega))] at h; exact h)) true ((Sp.one_in hone).1.1)) <|
          .a 9 10 <| .p (does_cb _ ((by have h := segin_ok (Sp.spy ax ay bx b_y cx cy dx dy) 1 (by omega) (by omega) (by decide) (by decide) ay b_y (by omega) (by omega) (by omega) (by omega); rw [(Sp.rv_int (Sp.spy ax ay bx b_y cx cy dx dy) (by omega))] at h; exact h)) true ((Sp.one_in hone).1.2)) <|
          .a 9 10 <| .p (does_cb _ ((by have h := segin_ok (Sp.spx ax ay bx b_y cx cy dx dy) 1 (by omega) (by omega) (by decide) (by decide) cx dx (by omega) (by omega) (by omega) (by omega); rw [(Sp.rv_int (Sp.spx ax ay bx b_y cx cy dx dy) (by omega))] at h; exact h)) true ((Sp.one_in hone).2.1)) <|
          .a 9 10 <| .p (does_cb _ ((by have h := segin_ok (Sp.spy ax ay bx b_y cx cy dx dy) 1 (by omega) (by omega) (by decide) (by decide) cy dy (by omega) (by omega) (by omega) (by omega); rw [(Sp.rv_int (Sp.spy ax ay bx b_y cx cy dx dy) (by omega))] at h; exact h)) true ((Sp.one_in hone).2.2)) <|
          .a 3 10 <|
          .p (does_c ((by have h := fabs_ok (Sp.qn (((Sp.spx ax ay bx b_y cx cy dx dy : Int) : Rat) + (-((Sp.spx ax ay bx b_y cx cy dx dy : Int) : Rat)))) (Sp.qd (((Sp.spx ax ay bx b_y cx cy dx dy : Int) : Rat) + (-((Sp.spx ax ay bx b_y cx cy dx dy : Int) : Rat)))) (by have := Sp.qn_bd (((Sp.spx ax ay bx b_y cx cy dx dy : Int) : Rat) + (-((Sp.spx ax ay bx b_y cx cy dx dy : Int) : Rat))); omega) (by have := Sp.qn_bd (((Sp.spx ax ay bx b_y cx cy dx dy : Int) : Rat) + (-((Sp.spx ax ay bx b_y cx cy dx dy : Int) : Rat))); omega) (by have := Sp.qd_bd (((Sp.spx ax ay bx b_y cx cy dx dy : Int) : Rat) + (-((Sp.spx ax ay bx b_y cx cy dx dy : Int) : Rat))); omega) (by have := Sp.qd_bd (((Sp.spx ax ay bx b_y cx cy dx dy : Int) : Rat) + (-((Sp.spx ax ay bx b_y cx cy dx dy : Int) : Rat))); omega); rw [(Sp.rv_fit (q := (((Sp.spx ax ay bx b_y cx cy dx dy : Int) : Rat) + (-((Sp.spx ax ay bx b_y cx cy dx dy : Int) : Rat)))) (Sp.bd_fit (Sp.Bd.add (Sp.Bd.mono (N' := 40) (D' := 1) (Sp.Bd.int (Sp.spx ax ay bx b_y cx cy dx dy)) (by omega) (by decide)) (Sp.Bd.neg (Sp.Bd.mono (N' := 40) (D' := 1) (Sp.Bd.int (Sp.spx ax ay bx b_y cx cy dx dy)) (by omega) (by decide)))) (by decide) (by decide)))] at h; exact h))) <|
          .a 1 10 <|
          .p (does_c ((by have h := fcmp_ok (Sp.qn (Sp.rabs (((Sp.spx ax ay bx b_y cx cy dx dy : Int) : Rat) + (-((Sp.spx ax ay bx b_y cx cy dx dy : Int) : Rat))))) (Sp.qd (Sp.rabs (((Sp.spx ax ay bx b_y cx cy dx dy : Int) : Rat) + (-((Sp.spx ax ay bx b_y cx cy dx dy : Int) : Rat))))) (by have := Sp.qn_bd (Sp.rabs (((Sp.spx ax ay bx b_y cx cy dx dy : Int) : Rat) + (-((Sp.spx ax ay bx b_y cx cy dx dy : Int) : Rat)))); omega) (by have := Sp.qn_bd (Sp.rabs (((Sp.spx ax ay bx b_y cx cy dx dy : Int) : Rat) + (-((Sp.spx ax ay bx b_y cx cy dx dy : Int) : Rat)))); omega) (by have := Sp.qd_bd (Sp.rabs (((Sp.spx ax ay bx b_y cx cy dx dy : Int) : Rat) + (-((Sp.spx ax ay bx b_y cx cy dx dy : Int) : Rat)))); omega) (by have := Sp.qd_bd (Sp.rabs (((Sp.spx ax ay bx b_y cx cy dx dy : Int) : Rat) + (-((Sp.spx ax ay bx b_y cx cy dx dy : Int) : Rat)))); omega) 1 2 (by decide) (by decide) (by decide) (by decide); rw [(Sp.rv_fit (q := (Sp.rabs (((Sp.spx ax ay bx b_y cx cy dx dy : Int) : Rat) + (-((Sp.spx ax ay bx b_y cx cy dx dy : Int) : Rat))))) (Sp.fitq_abs (Sp.bd_fit (Sp.Bd.add (Sp.Bd.mono (N' := 40) (D' := 1) (Sp.Bd.int (Sp.spx ax ay bx b_y cx cy dx dy)) (by omega) (by decide)) (Sp.Bd.neg (Sp.Bd.mono (N' := 40) (D' := 1) (Sp.Bd.int (Sp.spx ax ay bx b_y cx cy dx dy)) (by omega) (by decide)))) (by decide) (by decide))))] at h; exact h))) <|
          .p (does_b true (((Sp.rcmp_le (Sp.rabs (((Sp.spx ax ay bx b_y cx cy dx dy : Int) : Rat) + (-((Sp.spx ax ay bx b_y cx cy dx dy : Int) : Rat)))) (Sp.rv 1 2))).trans ((decide_eq_true (Sp.rnd_half' _))))) <| .a 3 10 <|
          .p (does_c ((by have h := fabs_ok (Sp.qn (((Sp.spy ax ay bx b_y cx cy dx dy : Int) : Rat) + (-((Sp.spy ax ay bx b_y cx cy dx dy : Int) : Rat)))) (Sp.qd (((Sp.spy ax ay bx b_y cx cy dx dy : Int) : Rat) + (-((Sp.spy ax ay bx b_y cx cy dx dy : Int) : Rat)))) (by have := Sp.qn_bd (((Sp.spy ax ay bx b_y cx cy dx dy : Int) : Rat) + (-((Sp.spy ax ay bx b_y cx cy dx dy : Int) : Rat))); omega) (by have := Sp.qn_bd (((Sp.spy ax ay bx b_y cx cy dx dy : Int) : Rat) + (-((Sp.spy ax ay bx b_y cx cy dx dy : Int) : Rat))); omega) (by have := Sp.qd_bd (((Sp.spy ax ay bx b_y cx cy dx dy : Int) : Rat) + (-((Sp.spy ax ay bx b_y cx cy dx dy : Int) : Rat))); omega) (by have := Sp.qd_bd (((Sp.spy ax ay bx b_y cx cy dx dy : Int) : Rat) + (-((Sp.spy ax ay bx b_y cx cy dx dy : Int) : Rat))); omega); rw [(Sp.rv_fit (q := (((Sp.spy ax ay bx b_y cx cy dx dy : Int) : Rat) + (-((Sp.spy ax ay bx b_y cx cy dx dy : Int) : Rat)))) (Sp.bd_fit (Sp.Bd.add (Sp.Bd.mono (N' := 40) (D' := 1) (Sp.Bd.int (Sp.spy ax ay bx b_y cx cy dx dy)) (by omega) (by decide)) (Sp.Bd.neg (Sp.Bd.mono (N' := 40) (D' := 1) (Sp.Bd.int (Sp.spy ax ay bx b_y cx cy dx dy)) (by omega) (by decide)))) (by decide) (by decide)))] at h; exact h))) <|
          .a 1 10 <|
          .p (does_c ((by have h := fcmp_ok (Sp.qn (Sp.rabs (((Sp.spy ax ay bx b_y cx cy dx dy : Int) : Rat) + (-((Sp.spy ax ay bx b_y cx cy dx dy : Int) : Rat))))) (Sp.qd (Sp.rabs (((Sp.spy ax ay bx b_y cx cy dx dy : Int) : Rat) + (-((Sp.spy ax ay bx b_y cx cy dx dy : Int) : Rat))))) (by have := Sp.qn_bd (Sp.rabs (((Sp.spy ax ay bx b_y cx cy dx dy : Int) : Rat) + (-((Sp.spy ax ay bx b_y cx cy dx dy : Int) : Rat)))); omega) (by have := Sp.qn_bd (Sp.rabs (((Sp.spy ax ay bx b_y cx cy dx dy : Int) : Rat) + (-((Sp.spy ax ay bx b_y cx cy dx dy : Int) : Rat)))); omega) (by have := Sp.qd_bd (Sp.rabs (((Sp.spy ax ay bx b_y cx cy dx dy : Int) : Rat) + (-((Sp.spy ax ay bx b_y cx cy dx dy : Int) : Rat)))); omega) (by have := Sp.qd_bd (Sp.rabs (((Sp.spy ax ay bx b_y cx cy dx dy : Int) : Rat) + (-((Sp.spy ax ay bx b_y cx cy dx dy : Int) : Rat)))); omega) 1 2 (by decide) (by decide) (by decide) (by decide); rw [(Sp.rv_fit (q := (Sp.rabs (((Sp.spy ax ay bx b_y cx cy dx dy : Int) : Rat) + (-((Sp.spy ax ay bx b_y cx cy dx dy : Int) : Rat))))) (Sp.fitq_abs (Sp.bd_fit (Sp.Bd.add (Sp.Bd.mono (N' := 40) (D' := 1) (Sp.Bd.int (Sp.spy ax ay bx b_y cx cy dx dy)) (by omega) (by decide)) (Sp.Bd.neg (Sp.Bd.mono (N' := 40) (D' := 1) (Sp.Bd.int (Sp.spy ax ay bx b_y cx cy dx dy)) (by omega) (by decide)))) (by decide) (by decide))))] at h; exact h))) <|
          .p (does_b true (((Sp.rcmp_le (Sp.rabs (((Sp.spy ax ay bx b_y cx cy dx dy : Int) : Rat) + (-((Sp.spy ax ay bx b_y cx cy dx dy : Int) : Rat)))) (Sp.rv 1 2))).trans ((decide_eq_true (Sp.rnd_half' _))))) <| .a 2 10 <| .nil _ _) ?_
        refine aw_rt ?_
        exact en_ret [.bool true] (by kernel_rfl)


end Go.Proofs.Ytigllakcfdoagaa.Am
