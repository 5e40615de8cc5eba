/-
  The walks of the ends that two segments share.
-/
import Derived.Test.YtndkhgfecnbmnaaProg
import Derived.Test.YtndkhgfecnbmnaaAm16
import Derived.Test.YtndkhgfecnbmnaaPt1
import Derived.Test.YtndkhgfecnbmnaaSm
namespace Go.Proofs.Ytndkhgfecnbmnaa.Am
open Go Go.Proofs
set_option maxRecDepth 100000
set_option maxHeartbeats 4000000
set_option linter.unusedVariables false
set_option linter.unusedSimpArgs false

theorem shadd0S (px py qx qy rx ry : Int) (pxl : -1048576 ≤ px) (pxu : px ≤ 1048576) (pyl : -1048576 ≤ py) (pyu : py ≤ 1048576) (qxl : -1048576 ≤ qx) (qxu : qx ≤ 1048576) (qyl : -1048576 ≤ qy) (qyu : qy ≤ 1048576) (rxl : -1048576 ≤ rx) (rxu : rx ≤ 1048576) (ryl : -1048576 ≤ ry) (ryu : ry ≤ 1048576) (h : Sp.addb [] px py qx qy rx ry = false) :
    AC Try.prog 136 1 ([.agg #[.int .i64 px, .int .i64 py], .agg #[.int .i64 qx, .int .i64 qy], .agg #[.int .i64 rx, .int .i64 ry], .pointer (some ⟨0, 0, none⟩)]) [(0, ⟨[.slice none 0 0], 30, true, 1⟩)] (.tuple #[]) [(0, ⟨[.slice none 0 0], 30, true, 1⟩)] := by
  refine ac_in Try.func136 (fun w0 W pin => ?_)
  refine aw_p 3 (
    .a 3 1 <| .nil _ _) ?_
  refine aw_sq 6 7 ?_
  refine aw_p 13 (
    .a 3 4 <| .p (does_cb _ (on_in qx qy rx ry px py (by omega) (by omega) (by omega) (by omega) (by omega) (by omega) (by omega) (by omega) (by omega) (by omega) (by omega) (by omega)) false ((show (Sp.onb qx qy rx ry px py) = false from (by simpa [Sp.addb, Sp.has2] using h)))) <| .a 1 4 <| .nil _ _) ?_
  refine aw_tr 26 ?_
  refine aw_rt ?_
  refine then_ret ?_
  exact en_ret [] (by kernel_rfl)

theorem shadd0A (px py qx qy rx ry : Int) (pxl : -1048576 ≤ px) (pxu : px ≤ 1048576) (pyl : -1048576 ≤ py) (pyu : py ≤ 1048576) (qxl : -1048576 ≤ qx) (qxu : qx ≤ 1048576) (qyl : -1048576 ≤ qy) (qyu : qy ≤ 1048576) (rxl : -1048576 ≤ rx) (rxu : rx ≤ 1048576) (ryl : -1048576 ≤ ry) (ryu : ry ≤ 1048576) (h : Sp.addb [] px py qx qy rx ry = true) :
    AC Try.prog 136 1 ([.agg #[.int .i64 px, .int .i64 py], .agg #[.int .i64 qx, .int .i64 qy], .agg #[.int .i64 rx, .int .i64 ry], .pointer (some ⟨0, 0, none⟩)]) [(0, ⟨[.slice none 0 0], 30, true, 1⟩)] (.tuple #[]) [(0, ⟨[.slice (some ⟨1, 0, none⟩) 1 0], 30, true, 1⟩), (1, ⟨[.int .i64 px, .int .i64 py], 28, true, 2⟩)] := by
  refine ac_in Try.func136 (fun w0 W pin => ?_)
  refine aw_p 3 (
    .a 3 2 <| .nil _ _) ?_
  refine aw_sq 6 7 ?_
  refine aw_p 13 (
    .a 3 5 <| .p (does_cb _ (on_in qx qy rx ry px py (by omega) (by omega) (by omega) (by omega) (by omega) (by omega) (by omega) (by omega) (by omega) (by omega) (by omega) (by omega)) true ((Sp.addb_on h))) <| .a 1 5 <| .nil _ _) ?_
  refine aw_fl 27 ?_
  refine aw_sk ?_
  refine then_normal ?_
  refine aw_sq 14 15 ?_
  refine aw_p 29 (
    .a 3 5 <| .nil _ _) ?_
  refine aw_bl 0 59 ?_
  refine aw_lp 119 ?_
  refine al_round ?_
  refine aw_p 239 (
    .a 1 5 <| .nil _ _) ?_
  refine aw_sq 478 479 ?_
  refine aw_fl 957 ?_
  refine aw_ex 0 ?_
  refine then_exit ?_
  refine then_exit ?_
  refine block_exit ?_
  refine then_normal ?_
  refine aw_p1 (
    .a 3 5 <| .p (does_ap 1) <| .a 1 6 <| .nil _ _) ?_
  exact en_normal [] (by kernel_rfl)

theorem shadd1S (x1 y1 px py qx qy rx ry : Int) (pxl : -1048576 ≤ px) (pxu : px ≤ 1048576) (pyl : -1048576 ≤ py) (pyu : py ≤ 1048576) (qxl : -1048576 ≤ qx) (qxu : qx ≤ 1048576) (qyl : -1048576 ≤ qy) (qyu : qy ≤ 1048576) (rxl : -1048576 ≤ rx) (rxu : rx ≤ 1048576) (ryl : -1048576 ≤ ry) (ryu : ry ≤ 1048576) (h : Sp.addb [(x1, y1)] px py qx qy rx ry = false) :
    AC Try.prog 136 2 ([.agg #[.int .i64 px, .int .i64 py], .agg #[.int .i64 qx, .int .i64 qy], .agg #[.int .i64 rx, .int .i64 ry], .pointer (some ⟨0, 0, none⟩)]) [(0, ⟨[.slice (some ⟨1, 0, none⟩) 1 0], 30, true, 1⟩), (1, ⟨[.int .i64 x1, .int .i64 y1], 28, true, 2⟩)] (.tuple #[]) [(0, ⟨[.slice (some ⟨1, 0, none⟩) 1 0], 30, true, 1⟩), (1, ⟨[.int .i64 x1, .int .i64 y1], 28, true, 2⟩)] := by
  refine ac_in Try.func136 (fun w0 W pin => ?_)
  refine aw_p 3 (
    .a 3 2 <| .nil _ _) ?_
  refine aw_sq 6 7 ?_
  refine aw_p 13 (
    .a 3 5 <| .p (does_c (on_in qx qy rx ry px py (by omega) (by omega) (by omega) (by omega) (by omega) (by omega) (by omega) (by omega) (by omega) (by omega) (by omega) (by omega))) <| .a 1 5 <| .nil _ _) ?_
  refine aw_cd 26 27 (!(Sp.onb qx qy rx ry px py)) (fun h1 => ?_) (fun h1 => ?_)
  · refine aw_rt ?_
    refine then_ret ?_
    exact en_ret [] (by kernel_rfl)
  · refine aw_sk ?_
    refine then_normal ?_
    refine aw_sq 14 15 ?_
    refine aw_p 29 (
      .a 3 5 <| .nil _ _) ?_
    refine aw_bl 0 59 ?_
    refine aw_lp 119 ?_
    refine al_round ?_
    refine aw_p 239 (
      .a 1 5 <| .nil _ _) ?_
    refine aw_sq 478 479 ?_
    refine aw_tr 956 ?_
    refine aw_sk ?_
    refine then_normal ?_
    refine aw_sq 958 959 ?_
    refine aw_bl 1 1917 ?_
    refine aw_p 3835 (
      .a 4 5 <| .nil _ _) ?_
    refine aw_p 7671 (
      .a 2 6 <|
      .p (does_e true ((show ((x1 == px) && ((y1 == py) && true)) = true from (by have q := h; simp only [Sp.addb, Sp.has2, List.any_cons, List.any_nil, (show Sp.onb qx qy rx ry px py = true from (by simpa using h1)), Bool.or_false, Bool.false_or, Bool.true_and, Bool.not_eq_false'] at q; exact q)))) <| .nil _ _) ?_
    refine aw_tr 15342 ?_
    refine aw_rt ?_
    refine block_ret ?_
    refine then_ret ?_
    refine then_ret ?_
    refine block_ret ?_
    refine then_ret ?_
    exact en_ret [] (by kernel_rfl)

theorem shadd1A (x1 y1 px py qx qy rx ry : Int) (pxl : -1048576 ≤ px) (pxu : px ≤ 1048576) (pyl : -1048576 ≤ py) (pyu : py ≤ 1048576) (qxl : -1048576 ≤ qx) (qxu : qx ≤ 1048576) (qyl : -1048576 ≤ qy) (qyu : qy ≤ 1048576) (rxl : -1048576 ≤ rx) (rxu : rx ≤ 1048576) (ryl : -1048576 ≤ ry) (ryu : ry ≤ 1048576) (h : Sp.addb [(x1, y1)] px py qx qy rx ry = true) :
    AC Try.prog 136 2 ([.agg #[.int .i64 px, .int .i64 py], .agg #[.int .i64 qx, .int .i64 qy], .agg #[.int .i64 rx, .int .i64 ry], .pointer (some ⟨0, 0, none⟩)]) [(0, ⟨[.slice (some ⟨1, 0, none⟩) 1 0], 30, true, 1⟩), (1, ⟨[.int .i64 x1, .int .i64 y1], 28, true, 2⟩)] (.tuple #[]) [(0, ⟨[.slice (some ⟨2, 0, none⟩) 2 0], 30, true, 1⟩), (2, ⟨[.int .i64 x1, .int .i64 y1, .int .i64 px, .int .i64 py], 28, true, 2⟩)] := by
  refine ac_in Try.func136 (fun w0 W pin => ?_)
  refine aw_p 3 (
    .a 3 3 <| .nil _ _) ?_
  refine aw_sq 6 7 ?_
  refine aw_p 13 (
    .a 3 6 <| .p (does_cb _ (on_in qx qy rx ry px py (by omega) (by omega) (by omega) (by omega) (by omega) (by omega) (by omega) (by omega) (by omega) (by omega) (by omega) (by omega)) true ((Sp.addb_on h))) <| .a 1 6 <| .nil _ _) ?_
  refine aw_fl 27 ?_
  refine aw_sk ?_
  refine then_normal ?_
  refine aw_sq 14 15 ?_
  refine aw_p 29 (
    .a 3 6 <| .nil _ _) ?_
  refine aw_bl 0 59 ?_
  refine aw_lp 119 ?_
  refine al_round ?_
  refine aw_p 239 (
    .a 1 6 <| .nil _ _) ?_
  refine aw_sq 478 479 ?_
  refine aw_tr 956 ?_
  refine aw_sk ?_
  refine then_normal ?_
  refine aw_sq 958 959 ?_
  refine aw_bl 1 1917 ?_
  refine aw_p 3835 (
    .a 4 6 <| .nil _ _) ?_
  refine aw_p 7671 (
    .a 2 7 <| .p (does_e false ((show ((x1 == px) && ((y1 == py) && true)) = false from (Sp.has2_mem (l := [(x1, y1)]) (x := x1) (y := y1) (by simp) (Sp.addb_no h))))) <| .nil _ _) ?_
  refine aw_fl 15343 ?_
  refine aw_sk ?_
  refine block_normal ?_
  refine then_normal ?_
  refine aw_p1 (
    .a 2 7 <| .nil _ _) ?_
  refine then_normal ?_
  refine al_round ?_
  refine aw_p 239 (
    .a 1 7 <| .nil _ _) ?_
  refine aw_sq 478 479 ?_
  refine aw_fl 957 ?_
  refine aw_ex 0 ?_
  refine then_exit ?_
  refine then_exit ?_
  refine block_exit ?_
  refine then_normal ?_
  refine aw_p1 (
    .a 3 7 <| .p (does_ap 2) <| .a 1 8 <| .nil _ _) ?_
  exact en_normal [] (by kernel_rfl)

theorem shadd2S (x1 y1 x2 y2 px py qx qy rx ry : Int) (pxl : -1048576 ≤ px) (pxu : px ≤ 1048576) (pyl : -1048576 ≤ py) (pyu : py ≤ 1048576) (qxl : -1048576 ≤ qx) (qxu : qx ≤ 1048576) (qyl : -1048576 ≤ qy) (qyu : qy ≤ 1048576) (rxl : -1048576 ≤ rx) (rxu : rx ≤ 1048576) (ryl : -1048576 ≤ ry) (ryu : ry ≤ 1048576) (h : Sp.addb [(x1, y1), (x2, y2)] px py qx qy rx ry = false) :
    AC Try.prog 136 2 ([.agg #[.int .i64 px, .int .i64 py], .agg #[.int .i64 qx, .int .i64 qy], .agg #[.int .i64 rx, .int .i64 ry], .pointer (some ⟨0, 0, none⟩)]) [(0, ⟨[.slice (some ⟨1, 0, none⟩) 2 0], 30, true, 1⟩), (1, ⟨[.int .i64 x1, .int .i64 y1, .int .i64 x2, .int .i64 y2], 28, true, 2⟩)] (.tuple #[]) [(0, ⟨[.slice (some ⟨1, 0, none⟩) 2 0], 30, true, 1⟩), (1, ⟨[.int .i64 x1, .int .i64 y1, .int .i64 x2, .int .i64 y2], 28, true, 2⟩)] := by
  refine ac_in Try.func136 (fun w0 W pin => ?_)
  refine aw_p 3 (
    .a 3 2 <| .nil _ _) ?_
  refine aw_sq 6 7 ?_
  refine aw_p 13 (
    .a 3 5 <| .p (does_c (on_in qx qy rx ry px py (by omega) (by omega) (by omega) (by omega) (by omega) (by omega) (by omega) (by omega) (by omega) (by omega) (by omega) (by omega))) <| .a 1 5 <| .nil _ _) ?_
  refine aw_cd 26 27 (!(Sp.onb qx qy rx ry px py)) (fun h1 => ?_) (fun h1 => ?_)
  · refine aw_rt ?_
    refine then_ret ?_
    exact en_ret [] (by kernel_rfl)
  · refine aw_sk ?_
    refine then_normal ?_
    refine aw_sq 14 15 ?_
    refine aw_p 29 (
      .a 3 5 <| .nil _ _) ?_
    refine aw_bl 0 59 ?_
    refine aw_lp 119 ?_
    refine al_round ?_
    refine aw_p 239 (
      .a 1 5 <| .nil _ _) ?_
    refine aw_sq 478 479 ?_
    refine aw_tr 956 ?_
    refine aw_sk ?_
    refine then_normal ?_
    refine aw_sq 958 959 ?_
    refine aw_bl 1 1917 ?_
    refine aw_p 3835 (
      .a 4 5 <| .nil _ _) ?_
    refine aw_p 7671 (
      .a 2 6 <| .p (does_e ((x1 == px) && ((y1 == py) && true)) (rfl)) <| .nil _ _) ?_
    refine aw_cd 15342 15343 ((x1 == px) && ((y1 == py) && true)) (fun h2 => ?_) (fun h2 => ?_)
    · have h2p : ((x1 = px ∧ y1 = py)) := by first | (simpa using h2) | (have h2q := h2; simp at h2q; omega) | (have h2q := bx1 h2; simp at h2q; omega)
      refine aw_rt ?_
      refine block_ret ?_
      refine then_ret ?_
      refine then_ret ?_
      refine block_ret ?_
      refine then_ret ?_
      exact en_ret [] (by kernel_rfl)
    · have h2p : ¬ ((x1 = px ∧ y1 = py)) := by first | (simpa using h2) | (have h2q := h2; simp at h2q; omega) | (have h2q := bx2 h2; simp at h2q; omega)
      refine aw_sk ?_
      refine block_normal ?_
      refine then_normal ?_
      refine aw_p1 (
        .a 2 6 <| .nil _ _) ?_
      refine then_normal ?_
      refine al_round ?_
      refine aw_p 239 (
        .a 1 6 <| .nil _ _) ?_
      refine aw_sq 478 479 ?_
      refine aw_tr 956 ?_
      refine aw_sk ?_
      refine then_normal ?_
      refine aw_sq 958 959 ?_
      refine aw_bl 1 1917 ?_
      refine aw_p 3835 (
        .a 4 6 <| .nil _ _) ?_
      refine aw_p 7671 (
        .a 2 7 <|
        .p (does_e true ((show ((x2 == px) && ((y2 == py) && true)) = true from (by have q := h; simp only [Sp.addb, Sp.has2, List.any_cons, List.any_nil, (show Sp.onb qx qy rx ry px py = true from (by simpa using h1)), h2, Bool.or_false, Bool.false_or, Bool.true_and, Bool.not_eq_false'] at q; exact q)))) <| .nil _ _) ?_
      refine aw_tr 15342 ?_
      refine aw_rt ?_
      refine block_ret ?_
      refine then_ret ?_
      refine then_ret ?_
      refine block_ret ?_
      refine then_ret ?_
      exact en_ret [] (by kernel_rfl)

theorem shadd2A (x1 y1 x2 y2 px py qx qy rx ry : Int) (pxl : -1048576 ≤ px) (pxu : px ≤ 1048576) (pyl : -1048576 ≤ py) (pyu : py ≤ 1048576) (qxl : -1048576 ≤ qx) (qxu : qx ≤ 1048576) (qyl : -1048576 ≤ qy) (qyu : qy ≤ 1048576) (rxl : -1048576 ≤ rx) (rxu : rx ≤ 1048576) (ryl : -1048576 ≤ ry) (ryu : ry ≤ 1048576) (h : Sp.addb [(x1, y1), (x2, y2)] px py qx qy rx ry = true) :
    AC Try.prog 136 2 ([.agg #[.int .i64 px, .int .i64 py], .agg #[.int .i64 qx, .int .i64 qy], .agg #[.int .i64 rx, .int .i64 ry], .pointer (some ⟨0, 0, none⟩)]) [(0, ⟨[.slice (some ⟨1, 0, none⟩) 2 0], 30, true, 1⟩), (1, ⟨[.int .i64 x1, .int .i64 y1, .int .i64 x2, .int .i64 y2], 28, true, 2⟩)] (.tuple #[]) [(0, ⟨[.slice (some ⟨2, 0, none⟩) 3 0], 30, true, 1⟩), (2, ⟨[.int .i64 x1, .int .i64 y1, .int .i64 x2, .int .i64 y2, .int .i64 px, .int .i64 py], 28, true, 2⟩)] := by
  refine ac_in Try.func136 (fun w0 W pin => ?_)
  refine aw_p 3 (
    .a 3 3 <| .nil _ _) ?_
  refine aw_sq 6 7 ?_
  refine aw_p 13 (
    .a 3 6 <| .p (does_cb _ (on_in qx qy rx ry px py (by omega) (by omega) (by omega) (by omega) (by omega) (by omega) (by omega) (by omega) (by omega) (by omega) (by omega) (by omega)) true ((Sp.addb_on h))) <| .a 1 6 <| .nil _ _) ?_
  refine aw_fl 27 ?_
  refine aw_sk ?_
  refine then_normal ?_
  refine aw_sq 14 15 ?_
  refine aw_p 29 (
    .a 3 6 <| .nil _ _) ?_
  refine aw_bl 0 59 ?_
  refine aw_lp 119 ?_
  refine al_round ?_
  refine aw_p 239 (
    .a 1 6 <| .nil _ _) ?_
  refine aw_sq 478 479 ?_
  refine aw_tr 956 ?_
  refine aw_sk ?_
  refine then_normal ?_
  refine aw_sq 958 959 ?_
  refine aw_bl 1 1917 ?_
  refine aw_p 3835 (
    .a 4 6 <| .nil _ _) ?_
  refine aw_p 7671 (
    .a 2 7 <| .p (does_e false ((show ((x1 == px) && ((y1 == py) && true)) = false from (Sp.has2_mem (l := [(x1, y1), (x2, y2)]) (x := x1) (y := y1) (by simp) (Sp.addb_no h))))) <| .nil _ _) ?_
  refine aw_fl 15343 ?_
  refine aw_sk ?_
  refine block_normal ?_
  refine then_normal ?_
  refine aw_p1 (
    .a 2 7 <| .nil _ _) ?_
  refine then_normal ?_
  refine al_round ?_
  refine aw_p 239 (
    .a 1 7 <| .nil _ _) ?_
  refine aw_sq 478 479 ?_
  refine aw_tr 956 ?_
  refine aw_sk ?_
  refine then_normal ?_
  refine aw_sq 958 959 ?_
  refine aw_bl 1 1917 ?_
  refine aw_p 3835 (
    .a 4 7 <| .nil _ _) ?_
  refine aw_p 7671 (
    .a 2 8 <| .p (does_e false ((show ((x2 == px) && ((y2 == py) && true)) = false from (Sp.has2_mem (l := [(x1, y1), (x2, y2)]) (x := x2) (y := y2) (by simp) (Sp.addb_no h))))) <| .nil _ _) ?_
  refine aw_fl 15343 ?_
  refine aw_sk ?_
  refine block_normal ?_
  refine then_normal ?_
  refine aw_p1 (
    .a 2 8 <| .nil _ _) ?_
  refine then_normal ?_
  refine al_round ?_
  refine aw_p 239 (
    .a 1 8 <| .nil _ _) ?_
  refine aw_sq 478 479 ?_
  refine aw_fl 957 ?_
  refine aw_ex 0 ?_
  refine then_exit ?_
  refine then_exit ?_
  refine block_exit ?_
  refine then_normal ?_
  refine aw_p1 (
    .a 3 8 <| .p (does_ap 2) <| .a 1 9 <| .nil _ _) ?_
  exact en_normal [] (by kernel_rfl)

theorem shadd3S (x1 y1 x2 y2 x3 y3 px py qx qy rx ry : Int) (pxl : -1048576 ≤ px) (pxu : px ≤ 1048576) (pyl : -1048576 ≤ py) (pyu : py ≤ 1048576) (qxl : -1048576 ≤ qx) (qxu : qx ≤ 1048576) (qyl : -1048576 ≤ qy) (qyu : qy ≤ 1048576) (rxl : -1048576 ≤ rx) (rxu : rx ≤ 1048576) (ryl : -1048576 ≤ ry) (ryu : ry ≤ 1048576) (h : Sp.addb [(x1, y1), (x2, y2), (x3, y3)] px py qx qy rx ry = false) :
    AC Try.prog 136 2 ([.agg #[.int .i64 px, .int .i64 py], .agg #[.int .i64 qx, .int .i64 qy], .agg #[.int .i64 rx, .int .i64 ry], .pointer (some ⟨0, 0, none⟩)]) [(0, ⟨[.slice (some ⟨1, 0, none⟩) 3 0], 30, true, 1⟩), (1, ⟨[.int .i64 x1, .int .i64 y1, .int .i64 x2, .int .i64 y2, .int .i64 x3, .int .i64 y3], 28, true, 2⟩)] (.tuple #[]) [(0, ⟨[.slice (some ⟨1, 0, none⟩) 3 0], 30, true, 1⟩), (1, ⟨[.int .i64 x1, .int .i64 y1, .int .i64 x2, .int .i64 y2, .int .i64 x3, .int .i64 y3], 28, true, 2⟩)] := by
  refine ac_in Try.func136 (fun w0 W pin => ?_)
  refine aw_p 3 (
    .a 3 2 <| .nil _ _) ?_
  refine aw_sq 6 7 ?_
  refine aw_p 13 (
    .a 3 5 <| .p (does_c (on_in qx qy rx ry px py (by omega) (by omega) (by omega) (by omega) (by omega) (by omega) (by omega) (by omega) (by omega) (by omega) (by omega) (by omega))) <| .a 1 5 <| .nil _ _) ?_
  refine aw_cd 26 27 (!(Sp.onb qx qy rx ry px py)) (fun h1 => ?_) (fun h1 => ?_)
  · refine aw_rt ?_
    refine then_ret ?_
    exact en_ret [] (by kernel_rfl)
  · refine aw_sk ?_
    refine then_normal ?_
    refine aw_sq 14 15 ?_
    refine aw_p 29 (
      .a 3 5 <| .nil _ _) ?_
    refine aw_bl 0 59 ?_
    refine aw_lp 119 ?_
    refine al_round ?_
    refine aw_p 239 (
      .a 1 5 <| .nil _ _) ?_
    refine aw_sq 478 479 ?_
    refine aw_tr 956 ?_
    refine aw_sk ?_
    refine then_normal ?_
    refine aw_sq 958 959 ?_
    refine aw_bl 1 1917 ?_
    refine aw_p 3835 (
      .a 4 5 <| .nil _ _) ?_
    refine aw_p 7671 (
      .a 2 6 <| .p (does_e ((x1 == px) && ((y1 == py) && true)) (rfl)) <| .nil _ _) ?_
    refine aw_cd 15342 15343 ((x1 == px) && ((y1 == py) && true)) (fun h2 => ?_) (fun h2 => ?_)
    · have h2p : ((x1 = px ∧ y1 = py)) := by first | (simpa using h2) | (have h2q := h2; simp at h2q; omega) | (have h2q := bx1 h2; simp at h2q; omega)
      refine aw_rt ?_
      refine block_ret ?_
      refine then_ret ?_
      refine then_ret ?_
      refine block_ret ?_
      refine then_ret ?_
      exact en_ret [] (by kernel_rfl)
    · have h2p : ¬ ((x1 = px ∧ y1 = py)) := by first | (simpa using h2) | (have h2q := h2; simp at h2q; omega) | (have h2q := bx2 h2; simp at h2q; omega)
      refine aw_sk ?_
      refine block_normal ?_
      refine then_normal ?_
      refine aw_p1 (
        .a 2 6 <| .nil _ _) ?_
      refine then_normal ?_
      refine al_round ?_
      refine aw_p 239 (
        .a 1 6 <| .nil _ _) ?_
      refine aw_sq 478 479 ?_
      refine aw_tr 956 ?_
      refine aw_sk ?_
      refine then_normal ?_
      refine aw_sq 958 959 ?_
      refine aw_bl 1 1917 ?_
      refine aw_p 3835 (
        .a 4 6 <| .nil _ _) ?_
      refine aw_p 7671 (
        .a 2 7 <| .p (does_e ((x2 == px) && ((y2 == py) && true)) (rfl)) <| .nil _ _) ?_
      refine aw_cd 15342 15343 ((x2 == px) && ((y2 == py) && true)) (fun h3 => ?_) (fun h3 => ?_)
      · have h3p : ((x2 = px ∧ y2 = py)) := by first | (simpa using h3) | (have h3q := h3; simp at h3q; omega) | (have h3q := bx1 h3; simp at h3q; omega)
        refine aw_rt ?_
        refine block_ret ?_
        refine then_ret ?_
        refine then_ret ?_
        refine block_ret ?_
        refine then_ret ?_
        exact en_ret [] (by kernel_rfl)
      · have h3p : ¬ ((x2 = px ∧ y2 = py)) := by first | (simpa using h3) | (have h3q := h3; simp at h3q; omega) | (have h3q := bx2 h3; simp at h3q; omega)
        refine aw_sk ?_
        refine block_normal ?_
        refine then_normal ?_
        refine aw_p1 (
          .a 2 7 <| .nil _ _) ?_
        refine then_normal ?_
        refine al_round ?_
        refine aw_p 239 (
          .a 1 7 <| .nil _ _) ?_
        refine aw_sq 478 479 ?_
        refine aw_tr 956 ?_
        refine aw_sk ?_
        refine then_normal ?_
        refine aw_sq 958 959 ?_
        refine aw_bl 1 1917 ?_
        refine aw_p 3835 (
          .a 4 7 <| .nil _ _) ?_
        refine aw_p 7671 (
          .a 2 8 <|
          .p (does_e true ((show ((x3 == px) && ((y3 == py) && true)) = true from (by have q := h; simp only [Sp.addb, Sp.has2, List.any_cons, List.any_nil, (show Sp.onb qx qy rx ry px py = true from (by simpa using h1)), h2, h3, Bool.or_false, Bool.false_or, Bool.true_and, Bool.not_eq_false'] at q; exact q)))) <| .nil _ _) ?_
        refine aw_tr 15342 ?_
        refine aw_rt ?_
        refine block_ret ?_
        refine then_ret ?_
        refine then_ret ?_
        refine block_ret ?_
        refine then_ret ?_
        exact en_ret [] (by kernel_rfl)

theorem shadd3A (x1 y1 x2 y2 x3 y3 px py qx qy rx ry : Int) (pxl : -1048576 ≤ px) (pxu : px ≤ 1048576) (pyl : -1048576 ≤ py) (pyu : py ≤ 1048576) (qxl : -1048576 ≤ qx) (qxu : qx ≤ 1048576) (qyl : -1048576 ≤ qy) (qyu : qy ≤ 1048576) (rxl : -1048576 ≤ rx) (rxu : rx ≤ 1048576) (ryl : -1048576 ≤ ry) (ryu : ry ≤ 1048576) (h : Sp.addb [(x1, y1), (x2, y2), (x3, y3)] px py qx qy rx ry = true) :
    AC Try.prog 136 2 ([.agg #[.int .i64 px, .int .i64 py], .agg #[.int .i64 qx, .int .i64 qy], .agg #[.int .i64 rx, .int .i64 ry], .pointer (some ⟨0, 0, none⟩)]) [(0, ⟨[.slice (some ⟨1, 0, none⟩) 3 0], 30, true, 1⟩), (1, ⟨[.int .i64 x1, .int .i64 y1, .int .i64 x2, .int .i64 y2, .int .i64 x3, .int .i64 y3], 28, true, 2⟩)] (.tuple #[]) [(0, ⟨[.slice (some ⟨2, 0, none⟩) 4 0], 30, true, 1⟩), (2, ⟨[.int .i64 x1, .int .i64 y1, .int .i64 x2, .int .i64 y2, .int .i64 x3, .int .i64 y3, .int .i64 px, .int .i64 py], 28, true, 2⟩)] := by
  refine ac_in Try.func136 (fun w0 W pin => ?_)
  refine aw_p 3 (
    .a 3 3 <| .nil _ _) ?_
  refine aw_sq 6 7 ?_
  refine aw_p 13 (
    .a 3 6 <| .p (does_cb _ (on_in qx qy rx ry px py (by omega) (by omega) (by omega) (by omega) (by omega) (by omega) (by omega) (by omega) (by omega) (by omega) (by omega) (by omega)) true ((Sp.addb_on h))) <| .a 1 6 <| .nil _ _) ?_
  refine aw_fl 27 ?_
  refine aw_sk ?_
  refine then_normal ?_
  refine aw_sq 14 15 ?_
  refine aw_p 29 (
    .a 3 6 <| .nil _ _) ?_
  refine aw_bl 0 59 ?_
  refine aw_lp 119 ?_
  refine al_round ?_
  refine aw_p 239 (
    .a 1 6 <| .nil _ _) ?_
  refine aw_sq 478 479 ?_
  refine aw_tr 956 ?_
  refine aw_sk ?_
  refine then_normal ?_
  refine aw_sq 958 959 ?_
  refine aw_bl 1 1917 ?_
  refine aw_p 3835 (
    .a 4 6 <| .nil _ _) ?_
  refine aw_p 7671 (
    .a 2 7 <| .p (does_e false ((show ((x1 == px) && ((y1 == py) && true)) = false from (Sp.has2_mem (l := [(x1, y1), (x2, y2), (x3, y3)]) (x := x1) (y := y1) (by simp) (Sp.addb_no h))))) <| .nil _ _) ?_
  refine aw_fl 15343 ?_
  refine aw_sk ?_
  refine block_normal ?_
  refine then_normal ?_
  refine aw_p1 (
    .a 2 7 <| .nil _ _) ?_
  refine then_normal ?_
  refine al_round ?_
  refine aw_p 239 (
    .a 1 7 <| .nil _ _) ?_
  refine aw_sq 478 479 ?_
  refine aw_tr 956 ?_
  refine aw_sk ?_
  refine then_normal ?_
  refine aw_sq 958 959 ?_
  refine aw_bl 1 1917 ?_
  refine aw_p 3835 (
    .a 4 7 <| .nil _ _) ?_
  refine aw_p 7671 (
    .a 2 8 <| .p (does_e false ((show ((x2 == px) && ((y2 == py) && true)) = false from (Sp.has2_mem (l := [(x1, y1), (x2, y2), (x3, y3)]) (x := x2) (y := y2) (by simp) (Sp.addb_no h))))) <| .nil _ _) ?_
  refine aw_fl 15343 ?_
  refine aw_sk ?_
  refine block_normal ?_
  refine then_normal ?_
  refine aw_p1 (
    .a 2 8 <| .nil _ _) ?_
  refine then_normal ?_
  refine al_round ?_
  refine aw_p 239 (
    .a 1 8 <| .nil _ _) ?_
  refine aw_sq 478 479 ?_
  refine aw_tr 956 ?_
  refine aw_sk ?_
  refine then_normal ?_
  refine aw_sq 958 959 ?_
  refine aw_bl 1 1917 ?_
  refine aw_p 3835 (
    .a 4 8 <| .nil _ _) ?_
  refine aw_p 7671 (
    .a 2 9 <| .p (does_e false ((show ((x3 == px) && ((y3 == py) && true)) = false from (Sp.has2_mem (l := [(x1, y1), (x2, y2), (x3, y3)]) (x := x3) (y := y3) (by simp) (Sp.addb_no h))))) <| .nil _ _) ?_
  refine aw_fl 15343 ?_
  refine aw_sk ?_
  refine block_normal ?_
  refine then_normal ?_
  refine aw_p1 (
    .a 2 9 <| .nil _ _) ?_
  refine then_normal ?_
  refine al_round ?_
  refine aw_p 239 (
    .a 1 9 <| .nil _ _) ?_
  refine aw_sq 478 479 ?_
  refine aw_fl 957 ?_
  refine aw_ex 0 ?_
  refine then_exit ?_
  refine then_exit ?_
  refine block_exit ?_
  refine then_normal ?_
  refine aw_p1 (
    .a 3 9 <| .p (does_ap 2) <| .a 1 10 <| .nil _ _) ?_
  exact en_normal [] (by kernel_rfl)


end Go.Proofs.Ytndkhgfecnbmnaa.Am
