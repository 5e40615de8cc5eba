/-
  The walk of the law BoxHits.
-/
import Derived.Test.YtigllakcfdoagaaProg
import Derived.Test.YtigllakcfdoagaaAm16
import Derived.Test.YtigllakcfdoagaaBh
import Derived.Test.YtigllakcfdoagaaSg8
namespace Go.Proofs.Ytigllakcfdoagaa.Am
open Go Go.Proofs
set_option maxRecDepth 100000
set_option maxHeartbeats 4000000
set_option linter.unusedVariables false
set_option linter.unusedSimpArgs false

theorem boxHits_walk (lx ly hx hy ax ay cx cy : Int) :
    AC Try.prog 14 0 ([.agg #[.int .i64 lx, .int .i64 ly, .int .i64 hx, .int .i64 hy], .agg #[.int .i64 ax, .int .i64 ay], .agg #[.int .i64 cx, .int .i64 cy]]) [] (.bool true) [] := by
  have qax := Sp.lim_bd (m := 1048576) (by decide) ax; have qay := Sp.lim_bd (m := 1048576) (by decide) ay; have qcx := Sp.lim_bd (m := 1048576) (by decide) cx; have qcy := Sp.lim_bd (m := 1048576) (by decide) cy
  refine ac_in Try.func14 (fun w0 W pin => ?_)
  refine aw_p 3 (
    .a 4 1 <| .nil _ _) ?_
  refine aw_sq 6 7 ?_
  refine aw_p 13 (
    .p (does_c (terrlaw1_boxBegun_ok)) <| .a 1 4 <| .nil _ _) ?_
  refine aw_fl 27 ?_
  refine aw_sk ?_
  refine then_normal ?_
  rcases Bool.eq_false_or_eq_true (Sp.bok lx ly hx hy) with h1 | h1
  · have bb := Sp.bok_bd h1
    rcases Bool.eq_false_or_eq_true (((ax == (Sp.lim 1048576 ax)) && ((ay == (Sp.lim 1048576 ay)) && true))) with h2 | h2
    · have ob := Sp.okb_bd (x := ax) (y := ay) h2; have sx := Sp.side_bd (l := lx) (h := hx) (a := ax) (by omega) (by omega) (by omega) (by omega) (by omega) (by omega); have sy := Sp.side_bd (l := ly) (h := hy) (a := ay) (by omega) (by omega) (by omega) (by omega) (by omega) (by omega)
      refine aw_p 15 (
        .a 2 4 <| .p (does_c (gap_ok lx ly hx hy ax ay h1 h2)) <| .a 5 4 <| .nil _ _) ?_
      refine aw_sq 30 31 ?_
      refine aw_p 61 (
        .a 1 4 <| .p (does_cb _ (valid_ok lx ly hx hy) true (h1)) <| .a 1 4 <| .nil _ _) ?_
      refine aw_fl 123 ?_
      refine aw_sk ?_
      refine then_normal ?_
      refine aw_d 63 (
        .a 1 4 <| .p (does_c (rvalid_ok ax ay)) <| .a 1 4 <| .p (does_c (rvalid_ok cx cy)) <| .a 4 4 <| .nil _ _) ?_
      refine aw_d 127 (
        .a 8 6 <| .p (does_c (terrlaw1_at_ok hx ly)) <| .a 8 6 <| .p (does_c (terrlaw1_at_ok lx hy)) <| .a 2 6 <| .nil _ _) ?_
      rcases Bool.eq_false_or_eq_true (Sp.inbox lx ly hx hy (Sp.lim 1048576 ax) (Sp.lim 1048576 ay)) with h3 | h3
      · refine aw_p 255 (
          .a 2 7 <| .p (does_cb _ (inside_ok lx ly hx hy (Sp.lim 1048576 ax) (Sp.lim 1048576 ay)) true (h3)) <| .a 6 7 <| .nil _ _) ?_
        refine aw_sq 510 511 ?_
        refine aw_p 1021 (
          .a 3 7 <| .nil _ _) ?_
        refine aw_bl 0 2043 ?_
        refine aw_lp 4087 ?_
        refine al_round ?_
        refine aw_p 8175 (
          .a 1 7 <| .nil _ _) ?_
        refine aw_sq 16350 16351 ?_
        refine aw_tr 32700 ?_
        refine aw_sk ?_
        refine then_normal ?_
        refine aw_sq 32702 32703 ?_
        refine aw_bl 1 65405 ?_
        refine aw_p 130811 (
          .a 2 7 <| .nil _ _) ?_
        refine aw_d1 (
          .a 18 7 <| .nil _ _) ?_
        refine block_normal ?_
        refine then_normal ?_
        refine aw_p1 (
          .a 2 7 <| .nil _ _) ?_
        refine then_normal ?_
        refine al_round ?_
        refine aw_p 8175 (
          .a 1 7 <| .nil _ _) ?_
        refine aw_sq 16350 16351 ?_
        refine aw_tr 32700 ?_
        refine aw_sk ?_
        refine then_normal ?_
        refine aw_sq 32702 32703 ?_
        refine aw_bl 1 65405 ?_
        refine aw_p 130811 (
          .a 2 7 <| .nil _ _) ?_
        refine aw_d1 (
          .a 18 7 <| .nil _ _) ?_
        refine block_normal ?_
        refine then_normal ?_
        refine aw_p1 (
          .a 2 7 <| .nil _ _) ?_
        refine then_normal ?_
        refine al_round ?_
        refine aw_p 8175 (
          .a 1 7 <| .nil _ _) ?_
        refine aw_sq 16350 16351 ?_
        refine aw_tr 32700 ?_
        refine aw_sk ?_
        refine then_normal ?_
        refine aw_sq 32702 32703 ?_
        refine aw_bl 1 65405 ?_
        refine aw_p 130811 (
          .a 2 7 <| .nil _ _) ?_
        refine aw_d1 (
          .a 18 7 <| .nil _ _) ?_
        refine block_normal ?_
        refine then_normal ?_
        refine aw_p1 (
          .a 2 7 <| .nil _ _) ?_
        refine then_normal ?_
        refine al_round ?_
        refine aw_p 8175 (
          .a 1 7 <| .nil _ _) ?_
        refine aw_sq 16350 16351 ?_
        refine aw_tr 32700 ?_
        refine aw_sk ?_
        refine then_normal ?_
        refine aw_sq 32702 32703 ?_
        refine aw_bl 1 65405 ?_
        refine aw_p 130811 (
          .a 2 7 <| .nil _ _) ?_
        refine aw_d1 (
          .a 18 7 <| .nil _ _) ?_
        refine block_normal ?_
        refine then_normal ?_
        refine aw_p1 (
          .a 2 7 <| .nil _ _) ?_
        refine then_normal ?_
        refine al_round ?_
        refine aw_p 8175 (
          .a 1 7 <| .nil _ _) ?_
        refine aw_sq 16350 16351 ?_
        refine aw_fl 32701 ?_
        refine aw_ex 0 ?_
        refine then_exit ?_
        refine then_exit ?_
        refine block_exit ?_
        refine then_normal ?_
        refine aw_sq 1022 1023 ?_
        refine aw_p 2045 (
          .a 3 7 <|
          .p (does_cb _ (hit_ok lx ly hx hy ax ay cx cy h1) true ((show (Sp.hitb lx ly hx hy (Sp.lim 1048576 ax) (Sp.lim 1048576 ay) (Sp.lim 1048576 cx) (Sp.lim 1048576 cy)) = true from (by rw [(show Sp.hitb lx ly hx hy (Sp.lim 1048576 ax) (Sp.lim 1048576 ay) (Sp.lim 1048576 cx) (Sp.lim 1048576 cy) = true from by rw [Sp.hit_eq bb.2.2.1 bb.2.2.2]; simp [Sp.refb, h3])]; first | done | rfl)))) <|
          .a 2 7 <| .nil _ _) ?_
        refine aw_fl 4091 ?_
        refine aw_sk ?_
        refine then_normal ?_
        refine aw_sq 2046 2047 ?_
        refine aw_p 4093 (
          .a 1 7 <| .p (does_cb _ (risvalid_ok ax ay) true (h2)) <| .a 1 7 <| .nil _ _) ?_
        refine aw_fl 8187 ?_
        refine aw_sk ?_
        refine then_normal ?_
        refine aw_d 4095 (
          .a 5 7 <| .p (does_i (lx - ax) (wrap_i64 (by omega) (by omega)) .i64) <| .a 5 7 <| .p (does_i (ax - hx) (wrap_i64 (by omega) (by omega)) .i64) <| .a 6 7 <| .p (does_i (ly - ay) (wrap_i64 (by omega) (by omega)) .i64) <| .a 5 7 <| .p (does_i (ay - hy) (wrap_i64 (by omega) (by omega)) .i64) <| .a 3 7 <| .nil _ _) ?_
        refine aw_p 8191 (
          .a 6 7 <| .p (does_i ((Sp.mx (Sp.mx (lx - ax) (ax - hx)) 0) * (Sp.mx (Sp.mx (lx - ax) (ax - hx)) 0)) (wrap_i64 (by omega) (by omega)) .i64) <| .a 2 7 <| .p (does_i ((Sp.mx (Sp.mx (ly - ay) (ay - hy)) 0) * (Sp.mx (Sp.mx (ly - ay) (ay - hy)) 0)) (wrap_i64 (by omega) (by omega)) .i64) <|
          .p (does_i (((Sp.mx (Sp.mx (lx - ax) (ax - hx)) 0) * (Sp.mx (Sp.mx (lx - ax) (ax - hx)) 0)) + ((Sp.mx (Sp.mx (ly - ay) (ay - hy)) 0) * (Sp.mx (Sp.mx (ly - ay) (ay - hy)) 0))) (wrap_i64 (by omega) (by omega)) .i64) <|
          .p (does_b true ((show ((Sp.gapN lx ly hx hy ax ay) == (((Sp.mx (Sp.mx (lx - ax) (ax - hx)) 0) * (Sp.mx (Sp.mx (lx - ax) (ax - hx)) 0)) + ((Sp.mx (Sp.mx (ly - ay) (ay - hy)) 0) * (Sp.mx (Sp.mx (ly - ay) (ay - hy)) 0)))) = true from (by rw [Sp.gap_eq bb.2.2.1 bb.2.2.2]; simp)))) <| .a 2 7 <| .nil _ _) ?_
        refine aw_rt ?_
        exact en_ret [.bool true] (by kernel_rfl)
      · refine aw_p 255 (
          .a 2 7 <| .p (does_cb _ (inside_ok lx ly hx hy (Sp.lim 1048576 ax) (Sp.lim 1048576 ay)) false (h3)) <| .a 3 7 <| .p (does_c (inside_ok lx ly hx hy (Sp.lim 1048576 cx) (Sp.lim 1048576 cy))) <| .a 2 7 <| .nil _ _) ?_
        refine aw_sq 510 511 ?_
        refine aw_p 1021 (
          .a 3 7 <| .nil _ _) ?_
        refine aw_bl 0 2043 ?_
        refine aw_lp 4087 ?_
        refine al_round ?_
        refine aw_p 8175 (
          .a 1 7 <| .nil _ _) ?_
        refine aw_sq 16350 16351 ?_
        refine aw_tr 32700 ?_
        refine aw_sk ?_
        refine then_normal ?_
        refine aw_sq 32702 32703 ?_
        refine aw_bl 1 65405 ?_
        refine aw_p 130811 (
          .a 2 7 <| .nil _ _) ?_
        rcases Bool.eq_false_or_eq_true (Sp.inbox lx ly hx hy (Sp.lim 1048576 cx) (Sp.lim 1048576 cy)) with h4 | h4
        · refine aw_d1 (
            .p (does_b true (h4)) <| .a 17 7 <| .nil _ _) ?_
          refine block_normal ?_
          refine then_normal ?_
          refine aw_p1 (
            .a 2 7 <| .nil _ _) ?_
          refine then_normal ?_
          refine al_round ?_
          refine aw_p 8175 (
            .a 1 7 <| .nil _ _) ?_
          refine aw_sq 16350 16351 ?_
          refine aw_tr 32700 ?_
          refine aw_sk ?_
          refine then_normal ?_
          refine aw_sq 32702 32703 ?_
          refine aw_bl 1 65405 ?_
          refine aw_p 130811 (
            .a 2 7 <| .nil _ _) ?_
          refine aw_d1 (
            .a 18 7 <| .nil _ _) ?_
          refine block_normal ?_
          refine then_normal ?_
          refine aw_p1 (
            .a 2 7 <| .nil _ _) ?_
          refine then_normal ?_
          refine al_round ?_
          refine aw_p 8175 (
            .a 1 7 <| .nil _ _) ?_
          refine aw_sq 16350 16351 ?_
          refine aw_tr 32700 ?_
          refine aw_sk ?_
          refine then_normal ?_
          refine aw_sq 32702 32703 ?_
          refine aw_bl 1 65405 ?_
          refine aw_p 130811 (
            .a 2 7 <| .nil _ _) ?_
          refine aw_d1 (
            .a 18 7 <| .nil _ _) ?_
          refine block_normal ?_
          refine then_normal ?_
          refine aw_p1 (
            .a 2 7 <| .nil _ _) ?_
          refine then_normal ?_
          refine al_round ?_
          refine aw_p 8175 (
            .a 1 7 <| .nil _ _) ?_
          refine aw_sq 16350 16351 ?_
          refine aw_tr 32700 ?_
          refine aw_sk ?_
          refine then_normal ?_
          refine aw_sq 32702 32703 ?_
          refine aw_bl 1 65405 ?_
          refine aw_p 130811 (
            .a 2 7 <| .nil _ _) ?_
          refine aw_d1 (
            .a 18 7 <| .nil _ _) ?_
          refine block_normal ?_
          refine then_normal ?_
          refine aw_p1 (
            .a 2 7 <| .nil _ _) ?_
          refine then_normal ?_
          refine al_round ?_
          refine aw_p 8175 (
            .a 1 7 <| .nil _ _) ?_
          refine aw_sq 16350 16351 ?_
          refine aw_fl 32701 ?_
          refine aw_ex 0 ?_
          refine then_exit ?_
          refine then_exit ?_
          refine block_exit ?_
          refine then_normal ?_
          refine aw_sq 1022 1023 ?_
          refine aw_p 2045 (
            .a 3 7 <|
            .p (does_cb _ (hit_ok lx ly hx hy ax ay cx cy h1) true ((show (Sp.hitb lx ly hx hy (Sp.lim 1048576 ax) (Sp.lim 1048576 ay) (Sp.lim 1048576 cx) (Sp.lim 1048576 cy)) = true from (by rw [(show Sp.hitb lx ly hx hy (Sp.lim 1048576 ax) (Sp.lim 1048576 ay) (Sp.lim 1048576 cx) (Sp.lim 1048576 cy) = true from by rw [Sp.hit_eq bb.2.2.1 bb.2.2.2]; simp [Sp.refb, h3, h4])]; first | done | rfl)))) <|
            .a 2 7 <| .nil _ _) ?_
          refine aw_fl 4091 ?_
          refine aw_sk ?_
          refine then_normal ?_
          refine aw_sq 2046 2047 ?_
          refine aw_p 4093 (
            .a 1 7 <| .p (does_cb _ (risvalid_ok ax ay) true (h2)) <| .a 1 7 <| .nil _ _) ?_
          refine aw_fl 8187 ?_
          refine aw_sk ?_
          refine then_normal ?_
          refine aw_d 4095 (
            .a 5 7 <| .p (does_i (lx - ax) (wrap_i64 (by omega) (by omega)) .i64) <| .a 5 7 <| .p (does_i (ax - hx) (wrap_i64 (by omega) (by omega)) .i64) <| .a 6 7 <| .p (does_i (ly - ay) (wrap_i64 (by omega) (by omega)) .i64) <| .a 5 7 <| .p (does_i (ay - hy) (wrap_i64 (by omega) (by omega)) .i64) <| .a 3 7 <| .nil _ _) ?_
          refine aw_p 8191 (
            .a 6 7 <| .p (does_i ((Sp.mx (Sp.mx (lx - ax) (ax - hx)) 0) * (Sp.mx (Sp.mx (lx - ax) (ax - hx)) 0)) (wrap_i64 (by omega) (by omega)) .i64) <| .a 2 7 <| .p (does_i ((Sp.mx (Sp.mx (ly - ay) (ay - hy)) 0) * (Sp.mx (Sp.mx (ly - ay) (ay - hy)) 0)) (wrap_i64 (by omega) (by omega)) .i64) <|
            .p (does_i (((Sp.mx (Sp.mx (lx - ax) (ax - hx)) 0) * (Sp.mx (Sp.mx (lx - ax) (ax - hx)) 0)) + ((Sp.mx (Sp.mx (ly - ay) (ay - hy)) 0) * (Sp.mx (Sp.mx (ly - ay) (ay - hy)) 0))) (wrap_i64 (by omega) (by omega)) .i64) <|
            .p (does_b true ((show ((Sp.gapN lx ly hx hy ax ay) == (((Sp.mx (Sp.mx (lx - ax) (ax - hx)) 0) * (Sp.mx (Sp.mx (lx - ax) (ax - hx)) 0)) + ((Sp.mx (Sp.mx (ly - ay) (ay - hy)) 0) * (Sp.mx (Sp.mx (ly - ay) (ay - hy)) 0)))) = true from (by rw [Sp.gap_eq bb.2.2.1 bb.2.2.2]; simp)))) <| .a 2 7 <| .nil _ _) ?_
          refine aw_rt ?_
          exact en_ret [.bool true] (by kernel_rfl)
        · refine aw_d1 (
            .p (does_b false (h4)) <| .a 13 7 <|
            .p (does_c (rshared_in (Sp.lim 1048576 ax) (Sp.lim 1048576 ay) (Sp.lim 1048576 cx) (Sp.lim 1048576 cy) lx ly hx ly (by omega) (by omega) (by omega) (by omega) (by omega) (by omega) (by omega) (by omega) (by omega) (by omega) (by omega) (by omega) (by omega) (by omega) (by omega) (by omega))) <|
            .a 3 7 <| .nil _ _) ?_
          refine block_normal ?_
          refine then_normal ?_
          refine aw_p1 (
            .a 2 7 <| .nil _ _) ?_
          refine then_normal ?_
          refine al_round ?_
          refine aw_p 8175 (
            .a 1 7 <| .nil _ _) ?_
          refine aw_sq 16350 16351 ?_
          refine aw_tr 32700 ?_
          refine aw_sk ?_
          refine then_normal ?_
          refine aw_sq 32702 32703 ?_
          refine aw_bl 1 65405 ?_
          refine aw_p 130811 (
            .a 2 7 <| .nil _ _) ?_
          rcases Bool.eq_false_or_eq_true (decide ((Sp.meetN (Sp.lim 1048576 ax) (Sp.lim 1048576 ay) (Sp.lim 1048576 cx) (Sp.lim 1048576 cy) lx ly hx ly) > 0)) with h5 | h5
          · have h5p : (((Sp.meetN (Sp.lim 1048576 ax) (Sp.lim 1048576 ay) (Sp.lim 1048576 cx) (Sp.lim 1048576 cy) lx ly hx ly) > 0)) := by first | (simpa using h5) | (have h5q := h5; simp at h5q; omega) | (have h5q := bx1 h5; simp at h5q; omega)
            refine aw_d1 (
              .p (does_b true (h5)) <| .a 17 7 <| .nil _ _) ?_
            refine block_normal ?_
            refine then_normal ?_
            refine aw_p1 (
              .a 2 7 <| .nil _ _) ?_
            refine then_normal ?_
            refine al_round ?_
            refine aw_p 8175 (
              .a 1 7 <| .nil _ _) ?_
            refine aw_sq 16350 16351 ?_
            refine aw_tr 32700 ?_
            refine aw_sk ?_
            refine then_normal ?_
            refine aw_sq 32702 32703 ?_
            refine aw_bl 1 65405 ?_
            refine aw_p 130811 (
              .a 2 7 <| .nil _ _) ?_
            refine aw_d1 (
              .a 18 7 <| .nil _ _) ?_
            refine block_normal ?_
            refine then_normal ?_
            refine aw_p1 (
              .a 2 7 <| .nil _ _) ?_
            refine then_normal ?_
            refine al_round ?_
            refine aw_p 8175 (
              .a 1 7 <| .nil _ _) ?_
            refine aw_sq 16350 16351 ?_
            refine aw_tr 32700 ?_
            refine aw_sk ?_
            refine then_normal ?_
            refine aw_sq 32702 32703 ?_
            refine aw_bl 1 65405 ?_
            refine aw_p 130811 (
              .a 2 7 <| .nil _ _) ?_
            refine aw_d1 (
              .a 18 7 <| .nil _ _) ?_
            refine block_normal ?_
            refine then_normal ?_
            refine aw_p1 (
              .a 2 7 <| .nil _ _) ?_
            refine then_normal ?_
            refine al_round ?_
            refine aw_p 8175 (
              .a 1 7 <| .nil _ _) ?_
            refine aw_sq 16350 16351 ?_
            refine aw_fl 32701 ?_
            refine aw_ex 0 ?_
            refine then_exit ?_
            refine then_exit ?_
            refine block_exit ?_
            refine then_normal ?_
            refine aw_sq 1022 1023 ?_
            refine aw_p 2045 (
              .a 3 7 <|
              .p (does_cb _ (hit_ok lx ly hx hy ax ay cx cy h1) true ((show (Sp.hitb lx ly hx hy (Sp.lim 1048576 ax) (Sp.lim 1048576 ay) (Sp.lim 1048576 cx) (Sp.lim 1048576 cy)) = true from (by rw [(show Sp.hitb lx ly hx hy (Sp.lim 1048576 ax) (Sp.lim 1048576 ay) (Sp.lim 1048576 cx) (Sp.lim 1048576 cy) = true from by rw [Sp.hit_eq bb.2.2.1 bb.2.2.2]; simp [Sp.refb, h3, h4, h5])]; first | done | rfl)))) <|
              .a 2 7 <| .nil _ _) ?_
            refine aw_fl 4091 ?_
            refine aw_sk ?_
            refine then_normal ?_
            refine aw_sq 2046 2047 ?_
            refine aw_p 4093 (
              .a 1 7 <| .p (does_cb _ (risvalid_ok ax ay) true (h2)) <| .a 1 7 <| .nil _ _) ?_
            refine aw_fl 8187 ?_
            refine aw_sk ?_
            refine then_normal ?_
            refine aw_d 4095 (
              .a 5 7 <| .p (does_i (lx - ax) (wrap_i64 (by omega) (by omega)) .i64) <| .a 5 7 <| .p (does_i (ax - hx) (wrap_i64 (by omega) (by omega)) .i64) <| .a 6 7 <| .p (does_i (ly - ay) (wrap_i64 (by omega) (by omega)) .i64) <| .a 5 7 <| .p (does_i (ay - hy) (wrap_i64 (by omega) (by omega)) .i64) <| .a 3 7 <| .nil _ _) ?_
            refine aw_p 8191 (
              .a 6 7 <| .p (does_i ((Sp.mx (Sp.mx (lx - ax) (ax - hx)) 0) * (Sp.mx (Sp.mx (lx - ax) (ax - hx)) 0)) (wrap_i64 (by omega) (by omega)) .i64) <| .a 2 7 <| .p (does_i ((Sp.mx (Sp.mx (ly - ay) (ay - hy)) 0) * (Sp.mx (Sp.mx (ly - ay) (ay - hy)) 0)) (wrap_i64 (by omega) (by omega)) .i64) <|
              .p (does_i (((Sp.mx (Sp.mx (lx - ax) (ax - hx)) 0) * (Sp.mx (Sp.mx (lx - ax) (ax - hx)) 0)) + ((Sp.mx (Sp.mx (ly - ay) (ay - hy)) 0) * (Sp.mx (Sp.mx (ly - ay) (ay - hy)) 0))) (wrap_i64 (by omega) (by omega)) .i64) <|
              .p (does_b true ((show ((Sp.gapN lx ly hx hy ax ay) == (((Sp.mx (Sp.mx (lx - ax) (ax - hx)) 0) * (Sp.mx (Sp.mx (lx - ax) (ax - hx)) 0)) + ((Sp.mx (Sp.mx (ly - ay) (ay - hy)) 0) * (Sp.mx (Sp.mx (ly - ay) (ay - hy)) 0)))) = true from (by rw [Sp.gap_eq bb.2.2.1 bb.2.2.2]; simp)))) <| .a 2 7 <| .nil _ _) ?_
            refine aw_rt ?_
            exact en_ret [.bool true] (by kernel_rfl)
          · have h5p : ¬ (((Sp.meetN (Sp.lim 1048576 ax) (Sp.lim 1048576 ay) (Sp.lim 1048576 cx) (Sp.lim 1048576 cy) lx ly hx ly) > 0)) := by first | (simpa using h5) | (have h5q := h5; simp at h5q; omega) | (have h5q := bx2 h5; simp at h5q; omega)
            refine aw_d1 (
              .p (does_b false (h5)) <| .a 13 7 <|
              .p (does_c (rshared_in (Sp.lim 1048576 ax) (Sp.lim 1048576 ay) (Sp.lim 1048576 cx) (Sp.lim 1048576 cy) hx ly hx hy (by omega) (by omega) (by omega) (by omega) (by omega) (by omega) (by omega) (by omega) (by omega) (by omega) (by omega) (by omega) (by omega) (by omega) (by omega) (by omega))) <|
              .a 3 7 <| .nil _ _) ?_
            refine block_normal ?_
            refine then_normal ?_
            refine aw_p1 (
              .a 2 7 <| .nil _ _) ?_
            refine then_normal ?_
            refine al_round ?_
            refine aw_p 8175 (
              .a 1 7 <| .nil _ _) ?_
            refine aw_sq 16350 16351 ?_
            refine aw_tr 32700 ?_
            refine aw_sk ?_
            refine then_normal ?_
            refine aw_sq 32702 32703 ?_
            refine aw_bl 1 65405 ?_
            refine aw_p 130811 (
              .a 2 7 <| .nil _ _) ?_
            rcases Bool.eq_false_or_eq_true (decide ((Sp.meetN (Sp.lim 1048576 ax) (Sp.lim 1048576 ay) (Sp.lim 1048576 cx) (Sp.lim 1048576 cy) hx ly hx hy) > 0)) with h6 | h6
            · have h6p : (((Sp.meetN (Sp.lim 1048576 ax) (Sp.lim 1048576 ay) (Sp.lim 1048576 cx) (Sp.lim 1048576 cy) hx ly hx hy) > 0)) := by first | (simpa using h6) | (have h6q := h6; simp at h6q; omega) | (have h6q := bx1 h6; simp at h6q; omega)
              refine aw_d1 (
                .p (does_b true (h6)) <| .a 17 7 <| .nil _ _) ?_
              refine block_normal ?_
              refine then_normal ?_
              refine aw_p1 (
                .a 2 7 <| .nil _ _) ?_
              refine then_normal ?_
              refine al_round ?_
              refine aw_p 8175 (
                .a 1 7 <| .nil _ _) ?_
              refine aw_sq 16350 16351 ?_
              refine aw_tr 32700 ?_
              refine aw_sk ?_
              refine then_normal ?_
              refine aw_sq 32702 32703 ?_
              refine aw_bl 1 65405 ?_
              refine aw_p 130811 (
                .a 2 7 <| .nil _ _) ?_
              refine aw_d1 (
                .a 18 7 <| .nil _ _) ?_
              refine block_normal ?_
              refine then_normal ?_
              refine aw_p1 (
                .a 2 7 <| .nil _ _) ?_
              refine then_normal ?_
              refine al_round ?_
              refine aw_p 8175 (
                .a 1 7 <| .nil _ _) ?_
              refine aw_sq 16350 16351 ?_
              refine aw_fl 32701 ?_
              refine aw_ex 0 ?_
              refine then_exit ?_
              refine then_exit ?_
              refine block_exit ?_
              refine then_normal ?_
              refine aw_sq 1022 1023 ?_
              refine aw_p 2045 (
                .a 3 7 <|
                .p (does_cb _ (hit_ok lx ly hx hy ax ay cx cy h1) true ((show (Sp.hitb lx ly hx hy (Sp.lim 1048576 ax) (Sp.lim 1048576 ay) (Sp.lim 1048576 cx) (Sp.lim 1048576 cy)) = true from (by rw [(show Sp.hitb lx ly hx hy (Sp.lim 1048576 ax) (Sp.lim 1048576 ay) (Sp.lim 1048576 cx) (Sp.lim 1048576 cy) = true from by rw [Sp.hit_eq bb.2.2.1 bb.2.2.2]; simp [Sp.refb, h3, h4, h5, h6])]; first | done | rfl)))) <|
                .a 2 7 <| .nil _ _) ?_
              refine aw_fl 4091 ?_
              refine aw_sk ?_
              refine then_normal ?_
              refine aw_sq 2046 2047 ?_
              refine aw_p 4093 (
                .a 1 7 <| .p (does_cb _ (risvalid_ok ax ay) true (h2)) <| .a 1 7 <| .nil _ _) ?_
              refine aw_fl 8187 ?_
              refine aw_sk ?_
              refine then_normal ?_
              refine aw_d 4095 (
                .a 5 7 <| .p (does_i (lx - ax) (wrap_i64 (by omega) (by omega)) .i64) <| .a 5 7 <| .p (does_i (ax - hx) (wrap_i64 (by omega) (by omega)) .i64) <| .a 6 7 <| .p (does_i (ly - ay) (wrap_i64 (by omega) (by omega)) .i64) <| .a 5 7 <| .p (does_i (ay - hy) (wrap_i64 (by omega) (by omega)) .i64) <| .a 3 7 <| .nil _ _) ?_
              refine aw_p 8191 (
                .a 6 7 <| .p (does_i ((Sp.mx (Sp.mx (lx - ax) (ax - hx)) 0) * (Sp.mx (Sp.mx (lx - ax) (ax - hx)) 0)) (wrap_i64 (by omega) (by omega)) .i64) <| .a 2 7 <| .p (does_i ((Sp.mx (Sp.mx (ly - ay) (ay - hy)) 0) * (Sp.mx (Sp.mx (ly - ay) (ay - hy)) 0)) (wrap_i64 (by omega) (by omega)) .i64) <|
                .p (does_i (((Sp.mx (Sp.mx (lx - ax) (ax - hx)) 0) * (Sp.mx (Sp.mx (lx - ax) (ax - hx)) 0)) + ((Sp.mx (Sp.mx (ly - ay) (ay - hy)) 0) * (Sp.mx (Sp.mx (ly - ay) (ay - hy)) 0))) (wrap_i64 (by omega) (by omega)) .i64) <|
                .p (does_b true ((show ((Sp.gapN lx ly hx hy ax ay) == (((Sp.mx (Sp.mx (lx - ax) (ax - hx)) 0) * (Sp.mx (Sp.mx (lx - ax) (ax - hx)) 0)) + ((Sp.mx (Sp.mx (ly - ay) (ay - hy)) 0) * (Sp.mx (Sp.mx (ly - ay) (ay - hy)) 0)))) = true from (by rw [Sp.gap_eq bb.2.2.1 bb.2.2.2]; simp)))) <| .a 2 7 <| .nil _ _) ?_
              refine aw_rt ?_
              exact en_ret [.bool true] (by kernel_rfl)
            · have h6p : ¬ (((Sp.meetN (Sp.lim 1048576 ax) (Sp.lim 1048576 ay) (Sp.lim 1048576 cx) (Sp.lim 1048576 cy) hx ly hx hy) > 0)) := by first | (simpa using h6) | (have h6q := h6; simp at h6q; omega) | (have h6q := bx2 h6; simp at h6q; omega)
              refine aw_d1 (
                .p (does_b false (h6)) <| .a 13 7 <|
                .p (does_c (rshared_in (Sp.lim 1048576 ax) (Sp.lim 1048576 ay) (Sp.lim 1048576 cx) (Sp.lim 1048576 cy) hx hy lx hy (by omega) (by omega) (by omega) (by omega) (by omega) (by omega) (by omega) (by omega) (by omega) (by omega) (by omega) (by omega) (by omega) (by omega) (by omega) (by omega))) <|
                .a 3 7 <| .nil _ _) ?_
              refine block_normal ?_
              refine then_normal ?_
              refine aw_p1 (
                .a 2 7 <| .nil _ _) ?_
              refine then_normal ?_
              refine al_round ?_
              refine aw_p 8175 (
                .a 1 7 <| .nil _ _) ?_
              refine aw_sq 16350 16351 ?_
              refine aw_tr 32700 ?_
              refine aw_sk ?_
              refine then_normal ?_
              refine aw_sq 32702 32703 ?_
              refine aw_bl 1 65405 ?_
              refine aw_p 130811 (
                .a 2 7 <| .nil _ _) ?_
              rcases Bool.eq_false_or_eq_true (decide ((Sp.meetN (Sp.lim 1048576 ax) (Sp.lim 1048576 ay) (Sp.lim 1048576 cx) (Sp.lim 1048576 cy) hx hy lx hy) > 0)) with h7 | h7
              · have h7p : (((Sp.meetN (Sp.lim 1048576 ax) (Sp.lim 1048576 ay) (Sp.lim 1048576 cx) (Sp.lim 1048576 cy) hx hy lx hy) > 0)) := by first | (simpa using h7) | (have h7q := h7; simp at h7q; omega) | (have h7q := bx1 h7; simp at h7q; omega)
                refine aw_d1 (
                  .p (does_b true (h7)) <| .a 17 7 <| .nil _ _) ?_
                refine block_normal ?_
                refine then_normal ?_
                refine aw_p1 (
                  .a 2 7 <| .nil _ _) ?_
                refine then_normal ?_
                refine al_round ?_
                refine aw_p 8175 (
                  .a 1 7 <| .nil _ _) ?_
                refine aw_sq 16350 16351 ?_
                refine aw_fl 32701 ?_
                refine aw_ex 0 ?_
                refine then_exit ?_
                refine then_exit ?_
                refine block_exit ?_
                refine then_normal ?_
                refine aw_sq 1022 1023 ?_
                refine aw_p 2045 (
                  .a 3 7 <|
                  .p (does_cb _ (hit_ok lx ly hx hy ax ay cx cy h1) true ((show (Sp.hitb lx ly hx hy (Sp.lim 1048576 ax) (Sp.lim 1048576 ay) (Sp.lim 1048576 cx) (Sp.lim 1048576 cy)) = true from (by rw [(show Sp.hitb lx ly hx hy (Sp.lim 1048576 ax) (Sp.lim 1048576 ay) (Sp.lim 1048576 cx) (Sp.lim 1048576 cy) = true from by rw [Sp.hit_eq bb.2.2.1 bb.2.2.2]; simp [Sp.refb, h3, h4, h5, h6, h7])]; first | done | rfl)))) <|
                  .a 2 7 <| .nil _ _) ?_
                refine aw_fl 4091 ?_
                refine aw_sk ?_
                refine then_normal ?_
                refine aw_sq 2046 2047 ?_
                refine aw_p 4093 (
                  .a 1 7 <| .p (does_cb _ (risvalid_ok ax ay) true (h2)) <| .a 1 7 <| .nil _ _) ?_
                refine aw_fl 8187 ?_
                refine aw_sk ?_
                refine then_normal ?_
                refine aw_d 4095 (
                  .a 5 7 <| .p (does_i (lx - ax) (wrap_i64 (by omega) (by omega)) .i64) <| .a 5 7 <| .p (does_i (ax - hx) (wrap_i64 (by omega) (by omega)) .i64) <| .a 6 7 <| .p (does_i (ly - ay) (wrap_i64 (by omega) (by omega)) .i64) <| .a 5 7 <| .p (does_i (ay - hy) (wrap_i64 (by omega) (by omega)) .i64) <| .a 3 7 <| .nil _ _) ?_
                refine aw_p 8191 (
                  .a 6 7 <| .p (does_i ((Sp.mx (Sp.mx (lx - ax) (ax - hx)) 0) * (Sp.mx (Sp.mx (lx - ax) (ax - hx)) 0)) (wrap_i64 (by omega) (by omega)) .i64) <| .a 2 7 <| .p (does_i ((Sp.mx (Sp.mx (ly - ay) (ay - hy)) 0) * (Sp.mx (Sp.mx (ly - ay) (ay - hy)) 0)) (wrap_i64 (by omega) (by omega)) .i64) <|
                  .p (does_i (((Sp.mx (Sp.mx (lx - ax) (ax - hx)) 0) * (Sp.mx (Sp.mx (lx - ax) (ax - hx)) 0)) + ((Sp.mx (Sp.mx (ly - ay) (ay - hy)) 0) * (Sp.mx (Sp.mx (ly - ay) (ay - hy)) 0))) (wrap_i64 (by omega) (by omega)) .i64) <|
                  .p (does_b true ((show ((Sp.gapN lx ly hx hy ax ay) == (((Sp.mx (Sp.mx (lx - ax) (ax - hx)) 0) * (Sp.mx (Sp.mx (lx - ax) (ax - hx)) 0)) + ((Sp.mx (Sp.mx (ly - ay) (ay - hy)) 0) * (Sp.mx (Sp.mx (ly - ay) (ay - hy)) 0)))) = true from (by rw [Sp.gap_eq bb.2.2.1 bb.2.2.2]; simp)))) <| .a 2 7 <| .nil _ _) ?_
                refine aw_rt ?_
                exact en_ret [.bool true] (by kernel_rfl)
              · have h7p : ¬ (((Sp.meetN (Sp.lim 1048576 ax) (Sp.lim 1048576 ay) (Sp.lim 1048576 cx) (Sp.lim 1048576 cy) hx hy lx hy) > 0)) := by first | (simpa using h7) | (have h7q := h7; simp at h7q; omega) | (have h7q := bx2 h7; simp at h7q; omega)
                refine aw_d1 (
                  .p (does_b false (h7)) <| .a 13 7 <|
                  .p (does_c (rshared_in (Sp.lim 1048576 ax) (Sp.lim 1048576 ay) (Sp.lim 1048576 cx) (Sp.lim 1048576 cy) lx hy lx ly (by omega) (by omega) (by omega) (by omega) (by omega) (by omega) (by omega) (by omega) (by omega) (by omega) (by omega) (by omega) (by omega) (by omega) (by omega) (by omega))) <|
                  .a 3 7 <| .nil _ _) ?_
                refine block_normal ?_
                refine then_normal ?_
                refine aw_p1 (
                  .a 2 7 <| .nil _ _) ?_
                refine then_normal ?_
                refine al_round ?_
                refine aw_p 8175 (
                  .a 1 7 <| .nil _ _) ?_
                refine aw_sq 16350 16351 ?_
                refine aw_fl 32701 ?_
                refine aw_ex 0 ?_
                refine then_exit ?_
                refine then_exit ?_
                refine block_exit ?_
                refine then_normal ?_
                refine aw_sq 1022 1023 ?_
                refine aw_p 2045 (
                  .a 3 7 <| .p (does_c (hit_ok lx ly hx hy ax ay cx cy h1)) <| .a 1 7 <|
                  .p (does_b false ((show (!((Sp.hitb lx ly hx hy (Sp.lim 1048576 ax) (Sp.lim 1048576 ay) (Sp.lim 1048576 cx) (Sp.lim 1048576 cy)) == (decide ((Sp.meetN (Sp.lim 1048576 ax) (Sp.lim 1048576 ay) (Sp.lim 1048576 cx) (Sp.lim 1048576 cy) lx hy lx ly) > 0)))) = false from (by rw [show Sp.hitb lx ly hx hy (Sp.lim 1048576 ax) (Sp.lim 1048576 ay) (Sp.lim 1048576 cx) (Sp.lim 1048576 cy) = decide ((Sp.meetN (Sp.lim 1048576 ax) (Sp.lim 1048576 ay) (Sp.lim 1048576 cx) (Sp.lim 1048576 cy) lx hy lx ly) > 0) from by rw [Sp.hit_eq bb.2.2.1 bb.2.2.2]; simp [Sp.refb, h3, h4, h5, h6, h7]]; simp)))) <| .nil _ _) ?_
                refine aw_fl 4091 ?_
                refine aw_sk ?_
                refine then_normal ?_
                refine aw_sq 2046 2047 ?_
                refine aw_p 4093 (
                  .a 1 7 <| .p (does_cb _ (risvalid_ok ax ay) true (h2)) <| .a 1 7 <| .nil _ _) ?_
                refine aw_fl 8187 ?_
                refine aw_sk ?_
                refine then_normal ?_
                refine aw_d 4095 (
                  .a 5 7 <| .p (does_i (lx - ax) (wrap_i64 (by omega) (by omega)) .i64) <| .a 5 7 <| .p (does_i (ax - hx) (wrap_i64 (by omega) (by omega)) .i64) <| .a 6 7 <| .p (does_i (ly - ay) (wrap_i64 (by omega) (by omega)) .i64) <| .a 5 7 <| .p (does_i (ay - hy) (wrap_i64 (by omega) (by omega)) .i64) <| .a 3 7 <| .nil _ _) ?_
                refine aw_p 8191 (
                  .a 6 7 <| .p (does_i ((Sp.mx (Sp.mx (lx - ax) (ax - hx)) 0) * (Sp.mx (Sp.mx (lx - ax) (ax - hx)) 0)) (wrap_i64 (by omega) (by omega)) .i64) <| .a 2 7 <| .p (does_i ((Sp.mx (Sp.mx (ly - ay) (ay - hy)) 0) * (Sp.mx (Sp.mx (ly - ay) (ay - hy)) 0)) (wrap_i64 (by omega) (by omega)) .i64) <|
                  .p (does_i (((Sp.mx (Sp.mx (lx - ax) (ax - hx)) 0) * (Sp.mx (Sp.mx (lx - ax) (ax - hx)) 0)) + ((Sp.mx (Sp.mx (ly - ay) (ay - hy)) 0) * (Sp.mx (Sp.mx (ly - ay) (ay - hy)) 0))) (wrap_i64 (by omega) (by omega)) .i64) <|
                  .p (does_b true ((show ((Sp.gapN lx ly hx hy ax ay) == (((Sp.mx (Sp.mx (lx - ax) (ax - hx)) 0) * (Sp.mx (Sp.mx (lx - ax) (ax - hx)) 0)) + ((Sp.mx (Sp.mx (ly - ay) (ay - hy)) 0) * (Sp.mx (Sp.mx (ly - ay) (ay - hy)) 0)))) = true from (by rw [Sp.gap_eq bb.2.2.1 bb.2.2.2]; simp)))) <| .a 2 7 <| .nil _ _) ?_
                refine aw_rt ?_
                exact en_ret [.bool true] (by kernel_rfl)
    · refine aw_p 15 (
        .a 2 4 <| .p (does_c (gap_p lx ly hx hy ax ay h1 h2)) <| .a 5 4 <| .nil _ _) ?_
      refine aw_sq 30 31 ?_
      refine aw_p 61 (
        .a 1 4 <| .p (does_cb _ (valid_ok lx ly hx hy) true (h1)) <| .a 1 4 <| .nil _ _) ?_
      refine aw_fl 123 ?_
      refine aw_sk ?_
      refine then_normal ?_
      refine aw_d 63 (
        .a 1 4 <| .p (does_c (rvalid_ok ax ay)) <| .a 1 4 <| .p (does_c (rvalid_ok cx cy)) <| .a 4 4 <| .nil _ _) ?_
      refine aw_d 127 (
        .a 8 6 <| .p (does_c (terrlaw1_at_ok hx ly)) <| .a 8 6 <| .p (does_c (terrlaw1_at_ok lx hy)) <| .a 2 6 <| .nil _ _) ?_
      rcases Bool.eq_false_or_eq_true (Sp.inbox lx ly hx hy (Sp.lim 1048576 ax) (Sp.lim 1048576 ay)) with h8 | h8
      · refine aw_p 255 (
          .a 2 7 <| .p (does_cb _ (inside_ok lx ly hx hy (Sp.lim 1048576 ax) (Sp.lim 1048576 ay)) true (h8)) <| .a 6 7 <| .nil _ _) ?_
        refine aw_sq 510 511 ?_
        refine aw_p 1021 (
          .a 3 7 <| .nil _ _) ?_
        refine aw_bl 0 2043 ?_
        refine aw_lp 4087 ?_
        refine al_round ?_
        refine aw_p 8175 (
          .a 1 7 <| .nil _ _) ?_
        refine aw_sq 16350 16351 ?_
        refine aw_tr 32700 ?_
        refine aw_sk ?_
        refine then_normal ?_
        refine aw_sq 32702 32703 ?_
        refine aw_bl 1 65405 ?_
        refine aw_p 130811 (
          .a 2 7 <| .nil _ _) ?_
        refine aw_d1 (
          .a 18 7 <| .nil _ _) ?_
        refine block_normal ?_
        refine then_normal ?_
        refine aw_p1 (
          .a 2 7 <| .nil _ _) ?_
        refine then_normal ?_
        refine al_round ?_
        refine aw_p 8175 (
          .a 1 7 <| .nil _ _) ?_
        refine aw_sq 16350 16351 ?_
        refine aw_tr 32700 ?_
        refine aw_sk ?_
        refine then_normal ?_
        refine aw_sq 32702 32703 ?_
        refine aw_bl 1 65405 ?_
        refine aw_p 130811 (
          .a 2 7 <| .nil _ _) ?_
        refine aw_d1 (
          .a 18 7 <| .nil _ _) ?_
        refine block_normal ?_
        refine then_normal ?_
        refine aw_p1 (
          .a 2 7 <| .nil _ _) ?_
        refine then_normal ?_
        refine al_round ?_
        refine aw_p 8175 (
          .a 1 7 <| .nil _ _) ?_
        refine aw_sq 16350 16351 ?_
        refine aw_tr 32700 ?_
        refine aw_sk ?_
        refine then_normal ?_
        refine aw_sq 32702 32703 ?_
        refine aw_bl 1 65405 ?_
        refine aw_p 130811 (
          .a 2 7 <| .nil _ _) ?_
        refine aw_d1 (
          .a 18 7 <| .nil _ _) ?_
        refine block_normal ?_
        refine then_normal ?_
        refine aw_p1 (
          .a 2 7 <| .nil _ _) ?_
        refine then_normal ?_
        refine al_round ?_
        refine aw_p 8175 (
          .a 1 7 <| .nil _ _) ?_
        refine aw_sq 16350 16351 ?_
        refine aw_tr 32700 ?_
        refine aw_sk ?_
        refine then_normal ?_
        refine aw_sq 32702 32703 ?_
        refine aw_bl 1 65405 ?_
        refine aw_p 130811 (
          .a 2 7 <| .nil _ _) ?_
        refine aw_d1 (
          .a 18 7 <| .nil _ _) ?_
        refine block_normal ?_
        refine then_normal ?_
        refine aw_p1 (
          .a 2 7 <| .nil _ _) ?_
        refine then_normal ?_
        refine al_round ?_
        refine aw_p 8175 (
          .a 1 7 <| .nil _ _) ?_
        refine aw_sq 16350 16351 ?_
        refine aw_fl 32701 ?_
        refine aw_ex 0 ?_
        refine then_exit ?_
        refine then_exit ?_
        refine block_exit ?_
        refine then_normal ?_
        refine aw_sq 1022 1023 ?_
        refine aw_p 2045 (
          .a 3 7 <|
          .p (does_cb _ (hit_ok lx ly hx hy ax ay cx cy h1) true ((show (Sp.hitb lx ly hx hy (Sp.lim 1048576 ax) (Sp.lim 1048576 ay) (Sp.lim 1048576 cx) (Sp.lim 1048576 cy)) = true from (by rw [(show Sp.hitb lx ly hx hy (Sp.lim 1048576 ax) (Sp.lim 1048576 ay) (Sp.lim 1048576 cx) (Sp.lim 1048576 cy) = true from by rw [Sp.hit_eq bb.2.2.1 bb.2.2.2]; simp [Sp.refb, h8])]; first | done | rfl)))) <|
          .a 2 7 <| .nil _ _) ?_
        refine aw_fl 4091 ?_
        refine aw_sk ?_
        refine then_normal ?_
        refine aw_sq 2046 2047 ?_
        refine aw_p 4093 (
          .a 1 7 <| .p (does_cb _ (risvalid_ok ax ay) false (h2)) <| .a 1 7 <| .nil _ _) ?_
        refine aw_tr 8186 ?_
        refine aw_p 16373 (
          .a 7 7 <| .nil _ _) ?_
        refine aw_rt ?_
        refine then_ret ?_
        exact en_ret [.bool true] (by kernel_rfl)
      · refine aw_p 255 (
          .a 2 7 <| .p (does_cb _ (inside_ok lx ly hx hy (Sp.lim 1048576 ax) (Sp.lim 1048576 ay)) false (h8)) <| .a 3 7 <| .p (does_c (inside_ok lx ly hx hy (Sp.lim 1048576 cx) (Sp.lim 1048576 cy))) <| .a 2 7 <| .nil _ _) ?_
        refine aw_sq 510 511 ?_
        refine aw_p 1021 (
          .a 3 7 <| .nil _ _) ?_
        refine aw_bl 0 2043 ?_
        refine aw_lp 4087 ?_
        refine al_round ?_
        refine aw_p 8175 (
          .a 1 7 <| .nil _ _) ?_
        refine aw_sq 16350 16351 ?_
        refine aw_tr 32700 ?_
        refine aw_sk ?_
        refine then_normal ?_
        refine aw_sq 32702 32703 ?_
        refine aw_bl 1 65405 ?_
        refine aw_p 130811 (
          .a 2 7 <| .nil _ _) ?_
        rcases Bool.eq_false_or_eq_true (Sp.inbox lx ly hx hy (Sp.lim 1048576 cx) (Sp.lim 1048576 cy)) with h9 | h9
        · refine aw_d1 (
            .p (does_b true (h9)) <| .a 17 7 <| .nil _ _) ?_
          refine block_normal ?_
          refine then_normal ?_
          refine aw_p1 (
            .a 2 7 <| .nil _ _) ?_
          refine then_normal ?_
          refine al_round ?_
          refine aw_p 8175 (
            .a 1 7 <| .nil _ _) ?_
          refine aw_sq 16350 16351 ?_
          refine aw_tr 32700 ?_
          refine aw_sk ?_
          refine then_normal ?_
          refine aw_sq 32702 32703 ?_
          refine aw_bl 1 65405 ?_
          refine aw_p 130811 (
            .a 2 7 <| .nil _ _) ?_
          refine aw_d1 (
            .a 18 7 <| .nil _ _) ?_
          refine block_normal ?_
          refine then_normal ?_
          refine aw_p1 (
            .a 2 7 <| .nil _ _) ?_
          refine then_normal ?_
          refine al_round ?_
          refine aw_p 8175 (
            .a 1 7 <| .nil _ _) ?_
          refine aw_sq 16350 16351 ?_
          refine aw_tr 32700 ?_
          refine aw_sk ?_
          refine then_normal ?_
          refine aw_sq 32702 32703 ?_
          refine aw_bl 1 65405 ?_
          refine aw_p 130811 (
            .a 2 7 <| .nil _ _) ?_
          refine aw_d1 (
            .a 18 7 <| .nil _ _) ?_
          refine block_normal ?_
          refine then_normal ?_
          refine aw_p1 (
            .a 2 7 <| .nil _ _) ?_
          refine then_normal ?_
          refine al_round ?_
          refine aw_p 8175 (
            .a 1 7 <| .nil _ _) ?_
          refine aw_sq 16350 16351 ?_
          refine aw_tr 32700 ?_
          refine aw_sk ?_
          refine then_normal ?_
          refine aw_sq 32702 32703 ?_
          refine aw_bl 1 65405 ?_
          refine aw_p 130811 (
            .a 2 7 <| .nil _ _) ?_
          refine aw_d1 (
            .a 18 7 <| .nil _ _) ?_
          refine block_normal ?_
          refine then_normal ?_
          refine aw_p1 (
            .a 2 7 <| .nil _ _) ?_
          refine then_normal ?_
          refine al_round ?_
          refine aw_p 8175 (
            .a 1 7 <| .nil _ _) ?_
          refine aw_sq 16350 16351 ?_
          refine aw_fl 32701 ?_
          refine aw_ex 0 ?_
          refine then_exit ?_
          refine then_exit ?_
          refine block_exit ?_
          refine then_normal ?_
          refine aw_sq 1022 1023 ?_
          refine aw_p 2045 (
            .a 3 7 <|
            .p (does_cb _ (hit_ok lx ly hx hy ax ay cx cy h1) true ((show (Sp.hitb lx ly hx hy (Sp.lim 1048576 ax) (Sp.lim 1048576 ay) (Sp.lim 1048576 cx) (Sp.lim 1048576 cy)) = true from (by rw [(show Sp.hitb lx ly hx hy (Sp.lim 1048576 ax) (Sp.lim 1048576 ay) (Sp.lim 1048576 cx) (Sp.lim 1048576 cy) = true from by rw [Sp.hit_eq bb.2.2.1 bb.2.2.2]; simp [Sp.refb, h8, h9])]; first | done | rfl)))) <|
            .a 2 7 <| .nil _ _) ?_
          refine aw_fl 4091 ?_
          refine aw_sk ?_
          refine then_normal ?_
          refine aw_sq 2046 2047 ?_
          refine aw_p 4093 (
            .a 1 7 <| .p (does_cb _ (risvalid_ok ax ay) false (h2)) <| .a 1 7 <| .nil _ _) ?_
          refine aw_tr 8186 ?_
          refine aw_p 16373 (
            .a 7 7 <| .nil _ _) ?_
          refine aw_rt ?_
          refine then_ret ?_
          exact en_ret [.bool true] (by kernel_rfl)
        · refine aw_d1 (
            .p (does_b false (h9)) <| .a 13 7 <|
            .p (does_c (rshared_in (Sp.lim 1048576 ax) (Sp.lim 1048576 ay) (Sp.lim 1048576 cx) (Sp.lim 1048576 cy) lx ly hx ly (by omega) (by omega) (by omega) (by omega) (by omega) (by omega) (by omega) (by omega) (by omega) (by omega) (by omega) (by omega) (by omega) (by omega) (by omega) (by omega))) <|
            .a 3 7 <| .nil _ _) ?_
          refine block_normal ?_
          refine then_normal ?_
          refine aw_p1 (
            .a 2 7 <| .nil _ _) ?_
          refine then_normal ?_
          refine al_round ?_
          refine aw_p 8175 (
            .a 1 7 <| .nil _ _) ?_
          refine aw_sq 16350 16351 ?_
          refine aw_tr 32700 ?_
          refine aw_sk ?_
          refine then_normal ?_
          refine aw_sq 32702 32703 ?_
          refine aw_bl 1 65405 ?_
          refine aw_p 130811 (
            .a 2 7 <| .nil _ _) ?_
          rcases Bool.eq_false_or_eq_true (decide ((Sp.meetN (Sp.lim 1048576 ax) (Sp.lim 1048576 ay) (Sp.lim 1048576 cx) (Sp.lim 1048576 cy) lx ly hx ly) > 0)) with h10 | h10
          · have h10p : (((Sp.meetN (Sp.lim 1048576 ax) (Sp.lim 1048576 ay) (Sp.lim 1048576 cx) (Sp.lim 1048576 cy) lx ly hx ly) > 0)) := by first | (simpa using h10) | (have h10q := h10; simp at h10q; omega) | (have h10q := bx1 h10; simp at h10q; omega)
            refine aw_d1 (
              .p (does_b true (h10)) <| .a 17 7 <| .nil _ _) ?_
            refine block_normal ?_
            refine then_normal ?_
            refine aw_p1 (
              .a 2 7 <| .nil _ _) ?_
            refine then_normal ?_
            refine al_round ?_
            refine aw_p 8175 (
              .a 1 7 <| .nil _ _) ?_
            refine aw_sq 16350 16351 ?_
            refine aw_tr 32700 ?_
            refine aw_sk ?_
            refine then_normal ?_
            refine aw_sq 32702 32703 ?_
            refine aw_bl 1 65405 ?_
            refine aw_p 130811 (
              .a 2 7 <| .nil _ _) ?_
            refine aw_d1 (
              .a 18 7 <| .nil _ _) ?_
            refine block_normal ?_
            refine then_normal ?_
            refine aw_p1 (
              .a 2 7 <| .nil _ _) ?_
            refine then_normal ?_
            refine al_round ?_
            refine aw_p 8175 (
              .a 1 7 <| .nil _ _) ?_
            refine aw_sq 16350 16351 ?_
            refine aw_tr 32700 ?_
            refine aw_sk ?_
            refine then_normal ?_
            refine aw_sq 32702 32703 ?_
            refine aw_bl 1 65405 ?_
            refine aw_p 130811 (
              .a 2 7 <| .nil _ _) ?_
            refine aw_d1 (
              .a 18 7 <| .nil _ _) ?_
            refine block_normal ?_
            refine then_normal ?_
            refine aw_p1 (
              .a 2 7 <| .nil _ _) ?_
            refine then_normal ?_
            refine al_round ?_
            refine aw_p 8175 (
              .a 1 7 <| .nil _ _) ?_
            refine aw_sq 16350 16351 ?_
            refine aw_fl 32701 ?_
            refine aw_ex 0 ?_
            refine then_exit ?_
            refine then_exit ?_
            refine block_exit ?_
            refine then_normal ?_
            refine aw_sq 1022 1023 ?_
            refine aw_p 2045 (
              .a 3 7 <|
              .p (does_cb _ (hit_ok lx ly hx hy ax ay cx cy h1) true ((show (Sp.hitb lx ly hx hy (Sp.lim 1048576 ax) (Sp.lim 1048576 ay) (Sp.lim 1048576 cx) (Sp.lim 1048576 cy)) = true from (by rw [(show Sp.hitb lx ly hx hy (Sp.lim 1048576 ax) (Sp.lim 1048576 ay) (Sp.lim 1048576 cx) (Sp.lim 1048576 cy) = true from by rw [Sp.hit_eq bb.2.2.1 bb.2.2.2]; simp [Sp.refb, h8, h9, h10])]; first | done | rfl)))) <|
              .a 2 7 <| .nil _ _) ?_
            refine aw_fl 4091 ?_
            refine aw_sk ?_
            refine then_normal ?_
            refine aw_sq 2046 2047 ?_
            refine aw_p 4093 (
              .a 1 7 <| .p (does_cb _ (risvalid_ok ax ay) false (h2)) <| .a 1 7 <| .nil _ _) ?_
            refine aw_tr 8186 ?_
            refine aw_p 16373 (
              .a 7 7 <| .nil _ _) ?_
            refine aw_rt ?_
            refine then_ret ?_
            exact en_ret [.bool true] (by kernel_rfl)
          · have h10p : ¬ (((Sp.meetN (Sp.lim 1048576 ax) (Sp.lim 1048576 ay) (Sp.lim 1048576 cx) (Sp.lim 1048576 cy) lx ly hx ly) > 0)) := by first | (simpa using h10) | (have h10q := h10; simp at h10q; omega) | (have h10q := bx2 h10; simp at h10q; omega)
            refine aw_d1 (
              .p (does_b false (h10)) <| .a 13 7 <|
              .p (does_c (rshared_in (Sp.lim 1048576 ax) (Sp.lim 1048576 ay) (Sp.lim 1048576 cx) (Sp.lim 1048576 cy) hx ly hx hy (by omega) (by omega) (by omega) (by omega) (by omega) (by omega) (by omega) (by omega) (by omega) (by omega) (by omega) (by omega) (by omega) (by omega) (by omega) (by omega))) <|
              .a 3 7 <| .nil _ _) ?_
            refine block_normal ?_
            refine then_normal ?_
            refine aw_p1 (
              .a 2 7 <| .nil _ _) ?_
            refine then_normal ?_
            refine al_round ?_
            refine aw_p 8175 (
              .a 1 7 <| .nil _ _) ?_
            refine aw_sq 16350 16351 ?_
            refine aw_tr 32700 ?_
            refine aw_sk ?_
            refine then_normal ?_
            refine aw_sq 32702 32703 ?_
            refine aw_bl 1 65405 ?_
            refine aw_p 130811 (
              .a 2 7 <| .nil _ _) ?_
            rcases Bool.eq_false_or_eq_true (decide ((Sp.meetN (Sp.lim 1048576 ax) (Sp.lim 1048576 ay) (Sp.lim 1048576 cx) (Sp.lim 1048576 cy) hx ly hx hy) > 0)) with h11 | h11
            · have h11p : (((Sp.meetN (Sp.lim 1048576 ax) (Sp.lim 1048576 ay) (Sp.lim 1048576 cx) (Sp.lim 1048576 cy) hx ly hx hy) > 0)) := by first | (simpa using h11) | (have h11q := h11; simp at h11q; omega) | (have h11q := bx1 h11; simp at h11q; omega)
              refine aw_d1 (
                .p (does_b true (h11)) <| .a 17 7 <| .nil _ _) ?_
              refine block_normal ?_
              refine then_normal ?_
              refine aw_p1 (
                .a 2 7 <| .nil _ _) ?_
              refine then_normal ?_
              refine al_round ?_
              refine aw_p 8175 (
                .a 1 7 <| .nil _ _) ?_
              refine aw_sq 16350 16351 ?_
              refine aw_tr 32700 ?_
              refine aw_sk ?_
              refine then_normal ?_
              refine aw_sq 32702 32703 ?_
              refine aw_bl 1 65405 ?_
              refine aw_p 130811 (
                .a 2 7 <| .nil _ _) ?_
              refine aw_d1 (
                .a 18 7 <| .nil _ _) ?_
              refine block_normal ?_
              refine then_normal ?_
              refine aw_p1 (
                .a 2 7 <| .nil _ _) ?_
              refine then_normal ?_
              refine al_round ?_
              refine aw_p 8175 (
                .a 1 7 <| .nil _ _) ?_
              refine aw_sq 16350 16351 ?_
              refine aw_fl 32701 ?_
              refine aw_ex 0 ?_
              refine then_exit ?_
              refine then_exit ?_
              refine block_exit ?_
              refine then_normal ?_
              refine aw_sq 1022 1023 ?_
              refine aw_p 2045 (
                .a 3 7 <|
                .p (does_cb _ (hit_ok lx ly hx hy ax ay cx cy h1) true ((show (Sp.hitb lx ly hx hy (Sp.lim 1048576 ax) (Sp.lim 1048576 ay) (Sp.lim 1048576 cx) (Sp.lim 1048576 cy)) = true from (by rw [(show Sp.hitb lx ly hx hy (Sp.lim 1048576 ax) (Sp.lim 1048576 ay) (Sp.lim 1048576 cx) (Sp.lim 1048576 cy) = true from by rw [Sp.hit_eq bb.2.2.1 bb.2.2.2]; simp [Sp.refb, h8, h9, h10, h11])]; first | done | rfl)))) <|
                .a 2 7 <| .nil _ _) ?_
              refine aw_fl 4091 ?_
              refine aw_sk ?_
              refine then_normal ?_
              refine aw_sq 2046 2047 ?_
              refine aw_p 4093 (
                .a 1 7 <| .p (does_cb _ (risvalid_ok ax ay) false (h2)) <| .a 1 7 <| .nil _ _) ?_
              refine aw_tr 8186 ?_
              refine aw_p 16373 (
                .a 7 7 <| .nil _ _) ?_
              refine aw_rt ?_
              refine then_ret ?_
              exact en_ret [.bool true] (by kernel_rfl)
            · have h11p : ¬ (((Sp.meetN (Sp.lim 1048576 ax) (Sp.lim 1048576 ay) (Sp.lim 1048576 cx) (Sp.lim 1048576 cy) hx ly hx hy) > 0)) := by first | (simpa using h11) | (have h11q := h11; simp at h11q; omega) | (have h11q := bx2 h11; simp at h11q; omega)
              refine aw_d1 (
                .p (does_b false (h11)) <| .a 13 7 <|
                .p (does_c (rshared_in (Sp.lim 1048576 ax) (Sp.lim 1048576 ay) (Sp.lim 1048576 cx) (Sp.lim 1048576 cy) hx hy lx hy (by omega) (by omega) (by omega) (by omega) (by omega) (by omega) (by omega) (by omega) (by omega) (by omega) (by omega) (by omega) (by omega) (by omega) (by omega) (by omega))) <|
                .a 3 7 <| .nil _ _) ?_
              refine block_normal ?_
              refine then_normal ?_
              refine aw_p1 (
                .a 2 7 <| .nil _ _) ?_
              refine then_normal ?_
              refine al_round ?_
              refine aw_p 8175 (
                .a 1 7 <| .nil _ _) ?_
              refine aw_sq 16350 16351 ?_
              refine aw_tr 32700 ?_
              refine aw_sk ?_
              refine then_normal ?_
              refine aw_sq 32702 32703 ?_
              refine aw_bl 1 65405 ?_
              refine aw_p 130811 (
                .a 2 7 <| .nil _ _) ?_
              rcases Bool.eq_false_or_eq_true (decide ((Sp.meetN (Sp.lim 1048576 ax) (Sp.lim 1048576 ay) (Sp.lim 1048576 cx) (Sp.lim 1048576 cy) hx hy lx hy) > 0)) with h12 | h12
              · have h12p : (((Sp.meetN (Sp.lim 1048576 ax) (Sp.lim 1048576 ay) (Sp.lim 1048576 cx) (Sp.lim 1048576 cy) hx hy lx hy) > 0)) := by first | (simpa using h12) | (have h12q := h12; simp at h12q; omega) | (have h12q := bx1 h12; simp at h12q; omega)
                refine aw_d1 (
                  .p (does_b true (h12)) <| .a 17 7 <| .nil _ _) ?_
                refine block_normal ?_
                refine then_normal ?_
                refine aw_p1 (
                  .a 2 7 <| .nil _ _) ?_
                refine then_normal ?_
                refine al_round ?_
                refine aw_p 8175 (
                  .a 1 7 <| .nil _ _) ?_
                refine aw_sq 16350 16351 ?_
                refine aw_fl 32701 ?_
                refine aw_ex 0 ?_
                refine then_exit ?_
                refine then_exit ?_
                refine block_exit ?_
                refine then_normal ?_
                refine aw_sq 1022 1023 ?_
                refine aw_p 2045 (
                  .a 3 7 <|
                  .p (does_cb _ (hit_ok lx ly hx hy ax ay cx cy h1) true ((show (Sp.hitb lx ly hx hy (Sp.lim 1048576 ax) (Sp.lim 1048576 ay) (Sp.lim 1048576 cx) (Sp.lim 1048576 cy)) = true from (by rw [(show Sp.hitb lx ly hx hy (Sp.lim 1048576 ax) (Sp.lim 1048576 ay) (Sp.lim 1048576 cx) (Sp.lim 1048576 cy) = true from by rw [Sp.hit_eq bb.2.2.1 bb.2.2.2]; simp [Sp.refb, h8, h9, h10, h11, h12])]; first | done | rfl)))) <|
                  .a 2 7 <| .nil _ _) ?_
                refine aw_fl 4091 ?_
                refine aw_sk ?_
                refine then_normal ?_
                refine aw_sq 2046 2047 ?_
                refine aw_p 4093 (
                  .a 1 7 <| .p (does_cb _ (risvalid_ok ax ay) false (h2)) <| .a 1 7 <| .nil _ _) ?_
                refine aw_tr 8186 ?_
                refine aw_p 16373 (
                  .a 7 7 <| .nil _ _) ?_
                refine aw_rt ?_
                refine then_ret ?_
                exact en_ret [.bool true] (by kernel_rfl)
              · have h12p : ¬ (((Sp.meetN (Sp.lim 1048576 ax) (Sp.lim 1048576 ay) (Sp.lim 1048576 cx) (Sp.lim 1048576 cy) hx hy lx hy) > 0)) := by first | (simpa using h12) | (have h12q := h12; simp at h12q; omega) | (have h12q := bx2 h12; simp at h12q; omega)
                refine aw_d1 (
                  .p (does_b false (h12)) <| .a 13 7 <|
                  .p (does_c (rshared_in (Sp.lim 1048576 ax) (Sp.lim 1048576 ay) (Sp.lim 1048576 cx) (Sp.lim 1048576 cy) lx hy lx ly (by omega) (by omega) (by omega) (by omega) (by omega) (by omega) (by omega) (by omega) (by omega) (by omega) (by omega) (by omega) (by omega) (by omega) (by omega) (by omega))) <|
                  .a 3 7 <| .nil _ _) ?_
                refine block_normal ?_
                refine then_normal ?_
                refine aw_p1 (
                  .a 2 7 <| .nil _ _) ?_
                refine then_normal ?_
                refine al_round ?_
                refine aw_p 8175 (
                  .a 1 7 <| .nil _ _) ?_
                refine aw_sq 16350 16351 ?_
                refine aw_fl 32701 ?_
                refine aw_ex 0 ?_
                refine then_exit ?_
                refine then_exit ?_
                refine block_exit ?_
                refine then_normal ?_
                refine aw_sq 1022 1023 ?_
                refine aw_p 2045 (
                  .a 3 7 <| .p (does_c (hit_ok lx ly hx hy ax ay cx cy h1)) <| .a 1 7 <|
                  .p (does_b false ((show (!((Sp.hitb lx ly hx hy (Sp.lim 1048576 ax) (Sp.lim 1048576 ay) (Sp.lim 1048576 cx) (Sp.lim 1048576 cy)) == (decide ((Sp.meetN (Sp.lim 1048576 ax) (Sp.lim 1048576 ay) (Sp.lim 1048576 cx) (Sp.lim 1048576 cy) lx hy lx ly) > 0)))) = false from (by rw [show Sp.hitb lx ly hx hy (Sp.lim 1048576 ax) (Sp.lim 1048576 ay) (Sp.lim 1048576 cx) (Sp.lim 1048576 cy) = decide ((Sp.meetN (Sp.lim 1048576 ax) (Sp.lim 1048576 ay) (Sp.lim 1048576 cx) (Sp.lim 1048576 cy) lx hy lx ly) > 0) from by rw [Sp.hit_eq bb.2.2.1 bb.2.2.2]; simp [Sp.refb, h8, h9, h10, h11, h12]]; simp)))) <| .nil _ _) ?_
                refine aw_fl 4091 ?_
                refine aw_sk ?_
                refine then_normal ?_
                refine aw_sq 2046 2047 ?_
                refine aw_p 4093 (
                  .a 1 7 <| .p (does_cb _ (risvalid_ok ax ay) false (h2)) <| .a 1 7 <| .nil _ _) ?_
                refine aw_tr 8186 ?_
                refine aw_p 16373 (
                  .a 7 7 <| .nil _ _) ?_
                refine aw_rt ?_
                refine then_ret ?_
                exact en_ret [.bool true] (by kernel_rfl)
  · refine aw_p 15 (
      .a 2 4 <| .p (does_c (gap_b lx ly hx hy ax ay h1)) <| .a 5 4 <| .nil _ _) ?_
    refine aw_sq 30 31 ?_
    refine aw_p 61 (
      .a 1 4 <| .p (does_cb _ (valid_ok lx ly hx hy) false (h1)) <| .a 1 4 <| .nil _ _) ?_
    refine aw_tr 122 ?_
    refine aw_p 245 (
      .a 3 4 <| .p (does_c (hit_no lx ly hx hy ax ay cx cy h1)) <| .a 10 4 <| .nil _ _) ?_
    refine aw_rt ?_
    refine then_ret ?_
    exact en_ret [.bool true] (by kernel_rfl)


end Go.Proofs.Ytigllakcfdoagaa.Am
