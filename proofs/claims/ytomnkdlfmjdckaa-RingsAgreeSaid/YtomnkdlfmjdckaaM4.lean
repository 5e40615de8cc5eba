import Derived.Test.YtomnkdlfmjdckaaProg
import Derived.Test.YtomnkdlfmjdckaaM2
import Derived.Test.YtomnkdlfmjdckaaM3
namespace Go.Proofs.Ytomnkdlfmjdckaa.Am
open Go Go.Proofs
set_option maxRecDepth 100000
set_option maxHeartbeats 4000000
set_option linter.unusedVariables false
set_option linter.unusedSimpArgs false
theorem shadd0S (px py qx qy rx ry : Int) (pxl : -1048576 ≤ px) (pxu : px ≤ 1048576) (pyl : -1048576 ≤ py) (pyu : py ≤ 1048576) (qxl : -1048576 ≤ qx) (qxu : qx ≤ 1048576) (qyl : -1048576 ≤ qy) (qyu : qy ≤ 1048576) (rxl : -1048576 ≤ rx) (rxu : rx ≤ 1048576) (ryl : -1048576 ≤ ry) (ryu : ry ≤ 1048576) (h : Sp.addb [] px py qx qy rx ry = false) :
    AC Try.prog 65 1 ([.agg #[.int .i64 px, .int .i64 py], .agg #[.int .i64 qx, .int .i64 qy], .agg #[.int .i64 rx, .int .i64 ry], .pointer (some ⟨0, 0, none⟩)]) [(0, ⟨[.slice none 0 0], 24, true, 1⟩)] (.tuple #[]) [(0, ⟨[.slice none 0 0], 24, true, 1⟩)] := by
  refine ac_in Try.func65 (fun w0 W pin => ?_)
  refine aw_p 3 (
    .a 3 1 <| .nil _ _) ?_
  refine aw_sq 6 7 ?_
  refine aw_p 13 (
    .a 3 4 <| .p (does_cb _ (on_in qx qy rx ry px py (by omega) (by omega) (by omega) (by omega) (by omega) (by omega) (by omega) (by omega) (by omega) (by omega) (by omega) (by omega)) false ((show (Sp.onb qx qy rx ry px py) = false from (by simpa [Sp.addb, Sp.has2] using h)))) <| .a 1 4 <| .nil _ _) ?_
  refine aw_tr 26 ?_
  refine aw_rt ?_
  refine then_ret ?_
  exact en_ret [] (by kernel_rfl)
theorem shadd0A (px py qx qy rx ry : Int) (pxl : -1048576 ≤ px) (pxu : px ≤ 1048576) (pyl : -1048576 ≤ py) (pyu : py ≤ 1048576) (qxl : -1048576 ≤ qx) (qxu : qx ≤ 1048576) (qyl : -1048576 ≤ qy) (qyu : qy ≤ 1048576) (rxl : -1048576 ≤ rx) (rxu : rx ≤ 1048576) (ryl : -1048576 ≤ ry) (ryu : ry ≤ 1048576) (h : Sp.addb [] px py qx qy rx ry = true) :
    AC Try.prog 65 1 ([.agg #[.int .i64 px, .int .i64 py], .agg #[.int .i64 qx, .int .i64 qy], .agg #[.int .i64 rx, .int .i64 ry], .pointer (some ⟨0, 0, none⟩)]) [(0, ⟨[.slice none 0 0], 24, true, 1⟩)] (.tuple #[]) [(0, ⟨[.slice (some ⟨1, 0, none⟩) 1 0], 24, true, 1⟩), (1, ⟨[.int .i64 px, .int .i64 py], 27, true, 2⟩)] := by
  refine ac_in Try.func65 (fun w0 W pin => ?_)
  refine aw_p 3 (
    .a 3 2 <| .nil _ _) ?_
  refine aw_sq 6 7 ?_
  refine aw_p 13 (
    .a 3 5 <| .p (does_cb _ (on_in qx qy rx ry px py (by omega) (by omega) (by omega) (by omega) (by omega) (by omega) (by omega) (by omega) (by omega) (by omega) (by omega) (by omega)) true ((Sp.addb_on h))) <| .a 1 5 <| .nil _ _) ?_
  refine aw_fl 27 ?_
  refine aw_sk ?_
  refine then_normal ?_
  refine aw_sq 14 15 ?_
  refine aw_p 29 (
    .a 3 5 <| .nil _ _) ?_
  refine aw_bl 0 59 ?_
  refine aw_lp 119 ?_
  refine al_round ?_
  refine aw_p 239 (
    .a 1 5 <| .nil _ _) ?_
  refine aw_sq 478 479 ?_
  refine aw_fl 957 ?_
  refine aw_ex 0 ?_
  refine then_exit ?_
  refine then_exit ?_
  refine block_exit ?_
  refine then_normal ?_
  refine aw_p1 (
    .a 3 5 <| .p (does_ap 1) <| .a 1 6 <| .nil _ _) ?_
  exact en_normal [] (by kernel_rfl)
theorem shadd1S (x1 y1 px py qx qy rx ry : Int) (pxl : -1048576 ≤ px) (pxu : px ≤ 1048576) (pyl : -1048576 ≤ py) (pyu : py ≤ 1048576) (qxl : -1048576 ≤ qx) (qxu : qx ≤ 1048576) (qyl : -1048576 ≤ qy) (qyu : qy ≤ 1048576) (rxl : -1048576 ≤ rx) (rxu : rx ≤ 1048576) (ryl : -1048576 ≤ ry) (ryu : ry ≤ 1048576) (h : Sp.addb [(x1, y1)] px py qx qy rx ry = false) :
    AC Try.prog 65 2 ([.agg #[.int .i64 px, .int .i64 py], .agg #[.int .i64 qx, .int .i64 qy], .agg #[.int .i64 rx, .int .i64 ry], .pointer (some ⟨0, 0, none⟩)]) [(0, ⟨[.slice (some ⟨1, 0, none⟩) 1 0], 24, true, 1⟩), (1, ⟨[.int .i64 x1, .int .i64 y1], 27, true, 2⟩)] (.tuple #[]) [(0, ⟨[.slice (some ⟨1, 0, none⟩) 1 0], 24, true, 1⟩), (1, ⟨[.int .i64 x1, .int .i64 y1], 27, true, 2⟩)] := by
  refine ac_in Try.func65 (fun w0 W pin => ?_)
  refine aw_p 3 (
    .a 3 2 <| .nil _ _) ?_
  refine aw_sq 6 7 ?_
  refine aw_p 13 (
    .a 3 5 <| .p (does_c (on_in qx qy rx ry px py (by omega) (by omega) (by omega) (by omega) (by omega) (by omega) (by omega) (by omega) (by omega) (by omega) (by omega) (by omega))) <| .a 1 5 <| .nil _ _) ?_
  refine aw_cd 26 27 (!(Sp.onb qx qy rx ry px py)) (fun h1 => ?_) (fun h1 => ?_)
  · refine aw_rt ?_
    refine then_ret ?_
    exact en_ret [] (by kernel_rfl)
  · refine aw_sk ?_
    refine then_normal ?_
    refine aw_sq 14 15 ?_
    refine aw_p 29 (
      .a 3 5 <| .nil _ _) ?_
    refine aw_bl 0 59 ?_
    refine aw_lp 119 ?_
    refine al_round ?_
    refine aw_p 239 (
      .a 1 5 <| .nil _ _) ?_
    refine aw_sq 478 479 ?_
    refine aw_tr 956 ?_
    refine aw_sk ?_
    refine then_normal ?_
    refine aw_sq 958 959 ?_
    refine aw_bl 1 1917 ?_
    refine aw_p 3835 (
      .a 4 5 <| .nil _ _) ?_
    refine aw_p 7671 (
      .a 2 6 <|
      .p (does_e true ((show ((x1 == px) && ((y1 == py) && true)) = true from (by have q := h; simp only [Sp.addb, Sp.has2, List.any_cons, List.any_nil, (show Sp.onb qx qy rx ry px py = true from (by simpa using h1)), Bool.or_false, Bool.false_or, Bool.true_and, Bool.not_eq_false'] at q; exact q)))) <| .nil _ _) ?_
    refine aw_tr 15342 ?_
    refine aw_rt ?_
    refine block_ret ?_
    refine then_ret ?_
    refine then_ret ?_
    refine block_ret ?_
    refine then_ret ?_
    exact en_ret [] (by kernel_rfl)
theorem shadd1A (x1 y1 px py qx qy rx ry : Int) (pxl : -1048576 ≤ px) (pxu : px ≤ 1048576) (pyl : -1048576 ≤ py) (pyu : py ≤ 1048576) (qxl : -1048576 ≤ qx) (qxu : qx ≤ 1048576) (qyl : -1048576 ≤ qy) (qyu : qy ≤ 1048576) (rxl : -1048576 ≤ rx) (rxu : rx ≤ 1048576) (ryl : -1048576 ≤ ry) (ryu : ry ≤ 1048576) (h : Sp.addb [(x1, y1)] px py qx qy rx ry = true) :
    AC Try.prog 65 2 ([.agg #[.int .i64 px, .int .i64 py], .agg #[.int .i64 qx, .int .i64 qy], .agg #[.int .i64 rx, .int .i64 ry], .pointer (some ⟨0, 0, none⟩)]) [(0, ⟨[.slice (some ⟨1, 0, none⟩) 1 0], 24, true, 1⟩), (1, ⟨[.int .i64 x1, .int .i64 y1], 27, true, 2⟩)] (.tuple #[]) [(0, ⟨[.slice (some ⟨2, 0, none⟩) 2 0], 24, true, 1⟩), (2, ⟨[.int .i64 x1, .int .i64 y1, .int .i64 px, .int .i64 py], 27, true, 2⟩)] := by
  refine ac_in Try.func65 (fun w0 W pin => ?_)
  refine aw_p 3 (
    .a 3 3 <| .nil _ _) ?_
  refine aw_sq 6 7 ?_
  refine aw_p 13 (
    .a 3 6 <| .p (does_cb _ (on_in qx qy rx ry px py (by omega) (by omega) (by omega) (by omega) (by omega) (by omega) (by omega) (by omega) (by omega) (by omega) (by omega) (by omega)) true ((Sp.addb_on h))) <| .a 1 6 <| .nil _ _) ?_
  refine aw_fl 27 ?_
  refine aw_sk ?_
  refine then_normal ?_
  refine aw_sq 14 15 ?_
  refine aw_p 29 (
    .a 3 6 <| .nil _ _) ?_
  refine aw_bl 0 59 ?_
  refine aw_lp 119 ?_
  refine al_round ?_
  refine aw_p 239 (
    .a 1 6 <| .nil _ _) ?_
  refine aw_sq 478 479 ?_
  refine aw_tr 956 ?_
  refine aw_sk ?_
  refine then_normal ?_
  refine aw_sq 958 959 ?_
  refine aw_bl 1 1917 ?_
  refine aw_p 3835 (
    .a 4 6 <| .nil _ _) ?_
  refine aw_p 7671 (
    .a 2 7 <| .p (does_e false ((show ((x1 == px) && ((y1 == py) && true)) = false from (Sp.has2_mem (l := [(x1, y1)]) (x := x1) (y := y1) (by simp) (Sp.addb_no h))))) <| .nil _ _) ?_
  refine aw_fl 15343 ?_
  refine aw_sk ?_
  refine block_normal ?_
  refine then_normal ?_
  refine aw_p1 (
    .a 2 7 <| .nil _ _) ?_
  refine then_normal ?_
  refine al_round ?_
  refine aw_p 239 (
    .a 1 7 <| .nil _ _) ?_
  refine aw_sq 478 479 ?_
  refine aw_fl 957 ?_
  refine aw_ex 0 ?_
  refine then_exit ?_
  refine then_exit ?_
  refine block_exit ?_
  refine then_normal ?_
  refine aw_p1 (
    .a 3 7 <| .p (does_ap 2) <| .a 1 8 <| .nil _ _) ?_
  exact en_normal [] (by kernel_rfl)
theorem shadd2S (x1 y1 x2 y2 px py qx qy rx ry : Int) (pxl : -1048576 ≤ px) (pxu : px ≤ 1048576) (pyl : -1048576 ≤ py) (pyu : py ≤ 1048576) (qxl : -1048576 ≤ qx) (qxu : qx ≤ 1048576) (qyl : -1048576 ≤ qy) (qyu : qy ≤ 1048576) (rxl : -1048576 ≤ rx) (rxu : rx ≤ 1048576) (ryl : -1048576 ≤ ry) (ryu : ry ≤ 1048576) (h : Sp.addb [(x1, y1), (x2, y2)] px py qx qy rx ry = false) :
    AC Try.prog 65 2 ([.agg #[.int .i64 px, .int .i64 py], .agg #[.int .i64 qx, .int .i64 qy], .agg #[.int .i64 rx, .int .i64 ry], .pointer (some ⟨0, 0, none⟩)]) [(0, ⟨[.slice (some ⟨1, 0, none⟩) 2 0], 24, true, 1⟩), (1, ⟨[.int .i64 x1, .int .i64 y1, .int .i64 x2, .int .i64 y2], 27, true, 2⟩)] (.tuple #[]) [(0, ⟨[.slice (some ⟨1, 0, none⟩) 2 0], 24, true, 1⟩), (1, ⟨[.int .i64 x1, .int .i64 y1, .int .i64 x2, .int .i64 y2], 27, true, 2⟩)] := by
  refine ac_in Try.func65 (fun w0 W pin => ?_)
  refine aw_p 3 (
    .a 3 2 <| .nil _ _) ?_
  refine aw_sq 6 7 ?_
  refine aw_p 13 (
    .a 3 5 <| .p (does_c (on_in qx qy rx ry px py (by omega) (by omega) (by omega) (by omega) (by omega) (by omega) (by omega) (by omega) (by omega) (by omega) (by omega) (by omega))) <| .a 1 5 <| .nil _ _) ?_
  refine aw_cd 26 27 (!(Sp.onb qx qy rx ry px py)) (fun h1 => ?_) (fun h1 => ?_)
  · refine aw_rt ?_
    refine then_ret ?_
    exact en_ret [] (by kernel_rfl)
  · refine aw_sk ?_
    refine then_normal ?_
    refine aw_sq 14 15 ?_
    refine aw_p 29 (
      .a 3 5 <| .nil _ _) ?_
    refine aw_bl 0 59 ?_
    refine aw_lp 119 ?_
    refine al_round ?_
    refine aw_p 239 (
      .a 1 5 <| .nil _ _) ?_
    refine aw_sq 478 479 ?_
    refine aw_tr 956 ?_
    refine aw_sk ?_
    refine then_normal ?_
    refine aw_sq 958 959 ?_
    refine aw_bl 1 1917 ?_
    refine aw_p 3835 (
      .a 4 5 <| .nil _ _) ?_
    refine aw_p 7671 (
      .a 2 6 <| .p (does_e ((x1 == px) && ((y1 == py) && true)) (rfl)) <| .nil _ _) ?_
    refine aw_cd 15342 15343 ((x1 == px) && ((y1 == py) && true)) (fun h2 => ?_) (fun h2 => ?_)
    · have h2p : ((x1 = px ∧ y1 = py)) := by first | (simpa using h2) | (have h2q := h2; simp at h2q; omega) | (have h2q := bx1 h2; simp at h2q; omega)
      refine aw_rt ?_
      refine block_ret ?_
      refine then_ret ?_
      refine then_ret ?_
      refine block_ret ?_
      refine then_ret ?_
      exact en_ret [] (by kernel_rfl)
    · have h2p : ¬ ((x1 = px ∧ y1 = py)) := by first | (simpa using h2) | (have h2q := h2; simp at h2q; omega) | (have h2q := bx2 h2; simp at h2q; omega)
      refine aw_sk ?_
      refine block_normal ?_
      refine then_normal ?_
      refine aw_p1 (
        .a 2 6 <| .nil _ _) ?_
      refine then_normal ?_
      refine al_round ?_
      refine aw_p 239 (
        .a 1 6 <| .nil _ _) ?_
      refine aw_sq 478 479 ?_
      refine aw_tr 956 ?_
      refine aw_sk ?_
      refine then_normal ?_
      refine aw_sq 958 959 ?_
      refine aw_bl 1 1917 ?_
      refine aw_p 3835 (
        .a 4 6 <| .nil _ _) ?_
      refine aw_p 7671 (
        .a 2 7 <|
        .p (does_e true ((show ((x2 == px) && ((y2 == py) && true)) = true from (by have q := h; simp only [Sp.addb, Sp.has2, List.any_cons, List.any_nil, (show Sp.onb qx qy rx ry px py = true from (by simpa using h1)), h2, Bool.or_false, Bool.false_or, Bool.true_and, Bool.not_eq_false'] at q; exact q)))) <| .nil _ _) ?_
      refine aw_tr 15342 ?_
      refine aw_rt ?_
      refine block_ret ?_
      refine then_ret ?_
      refine then_ret ?_
      refine block_ret ?_
      refine then_ret ?_
      exact en_ret [] (by kernel_rfl)
theorem shadd2A (x1 y1 x2 y2 px py qx qy rx ry : Int) (pxl : -1048576 ≤ px) (pxu : px ≤ 1048576) (pyl : -1048576 ≤ py) (pyu : py ≤ 1048576) (qxl : -1048576 ≤ qx) (qxu : qx ≤ 1048576) (qyl : -1048576 ≤ qy) (qyu : qy ≤ 1048576) (rxl : -1048576 ≤ rx) (rxu : rx ≤ 1048576) (ryl : -1048576 ≤ ry) (ryu : ry ≤ 1048576) (h : Sp.addb [(x1, y1), (x2, y2)] px py qx qy rx ry = true) :
    AC Try.prog 65 2 ([.agg #[.int .i64 px, .int .i64 py], .agg #[.int .i64 qx, .int .i64 qy], .agg #[.int .i64 rx, .int .i64 ry], .pointer (some ⟨0, 0, none⟩)]) [(0, ⟨[.slice (some ⟨1, 0, none⟩) 2 0], 24, true, 1⟩), (1, ⟨[.int .i64 x1, .int .i64 y1, .int .i64 x2, .int .i64 y2], 27, true, 2⟩)] (.tuple #[]) [(0, ⟨[.slice (some ⟨2, 0, none⟩) 3 0], 24, true, 1⟩), (2, ⟨[.int .i64 x1, .int .i64 y1, .int .i64 x2, .int .i64 y2, .int .i64 px, .int .i64 py], 27, true, 2⟩)] := by
  refine ac_in Try.func65 (fun w0 W pin => ?_)
  refine aw_p 3 (
    .a 3 3 <| .nil _ _) ?_
  refine aw_sq 6 7 ?_
  refine aw_p 13 (
    .a 3 6 <| .p (does_cb _ (on_in qx qy rx ry px py (by omega) (by omega) (by omega) (by omega) (by omega) (by omega) (by omega) (by omega) (by omega) (by omega) (by omega) (by omega)) true ((Sp.addb_on h))) <| .a 1 6 <| .nil _ _) ?_
  refine aw_fl 27 ?_
  refine aw_sk ?_
  refine then_normal ?_
  refine aw_sq 14 15 ?_
  refine aw_p 29 (
    .a 3 6 <| .nil _ _) ?_
  refine aw_bl 0 59 ?_
  refine aw_lp 119 ?_
  refine al_round ?_
  refine aw_p 239 (
    .a 1 6 <| .nil _ _) ?_
  refine aw_sq 478 479 ?_
  refine aw_tr 956 ?_
  refine aw_sk ?_
  refine then_normal ?_
  refine aw_sq 958 959 ?_
  refine aw_bl 1 1917 ?_
  refine aw_p 3835 (
    .a 4 6 <| .nil _ _) ?_
  refine aw_p 7671 (
    .a 2 7 <| .p (does_e false ((show ((x1 == px) && ((y1 == py) && true)) = false from (Sp.has2_mem (l := [(x1, y1), (x2, y2)]) (x := x1) (y := y1) (by simp) (Sp.addb_no h))))) <| .nil _ _) ?_
  refine aw_fl 15343 ?_
  refine aw_sk ?_
  refine block_normal ?_
  refine then_normal ?_
  refine aw_p1 (
    .a 2 7 <| .nil _ _) ?_
  refine then_normal ?_
  refine al_round ?_
  refine aw_p 239 (
    .a 1 7 <| .nil _ _) ?_
  refine aw_sq 478 479 ?_
  refine aw_tr 956 ?_
  refine aw_sk ?_
  refine then_normal ?_
  refine aw_sq 958 959 ?_
  refine aw_bl 1 1917 ?_
  refine aw_p 3835 (
    .a 4 7 <| .nil _ _) ?_
  refine aw_p 7671 (
    .a 2 8 <| .p (does_e false ((show ((x2 == px) && ((y2 == py) && true)) = false from (Sp.has2_mem (l := [(x1, y1), (x2, y2)]) (x := x2) (y := y2) (by simp) (Sp.addb_no h))))) <| .nil _ _) ?_
  refine aw_fl 15343 ?_
  refine aw_sk ?_
  refine block_normal ?_
  refine then_normal ?_
  refine aw_p1 (
    .a 2 8 <| .nil _ _) ?_
  refine then_normal ?_
  refine al_round ?_
  refine aw_p 239 (
    .a 1 8 <| .nil _ _) ?_
  refine aw_sq 478 479 ?_
  refine aw_fl 957 ?_
  refine aw_ex 0 ?_
  refine then_exit ?_
  refine then_exit ?_
  refine block_exit ?_
  refine then_normal ?_
  refine aw_p1 (
    .a 3 8 <| .p (does_ap 2) <| .a 1 9 <| .nil _ _) ?_
  exact en_normal [] (by kernel_rfl)
theorem shadd3S (x1 y1 x2 y2 x3 y3 px py qx qy rx ry : Int) (pxl : -1048576 ≤ px) (pxu : px ≤ 1048576) (pyl : -1048576 ≤ py) (pyu : py ≤ 1048576) (qxl : -1048576 ≤ qx) (qxu : qx ≤ 1048576) (qyl : -1048576 ≤ qy) (qyu : qy ≤ 1048576) (rxl : -1048576 ≤ rx) (rxu : rx ≤ 1048576) (ryl : -1048576 ≤ ry) (ryu : ry ≤ 1048576) (h : Sp.addb [(x1, y1), (x2, y2), (x3, y3)] px py qx qy rx ry = false) :
    AC Try.prog 65 2 ([.agg #[.int .i64 px, .int .i64 py], .agg #[.int .i64 qx, .int .i64 qy], .agg #[.int .i64 rx, .int .i64 ry], .pointer (some ⟨0, 0, none⟩)]) [(0, ⟨[.slice (some ⟨1, 0, none⟩) 3 0], 24, true, 1⟩), (1, ⟨[.int .i64 x1, .int .i64 y1, .int .i64 x2, .int .i64 y2, .int .i64 x3, .int .i64 y3], 27, true, 2⟩)] (.tuple #[]) [(0, ⟨[.slice (some ⟨1, 0, none⟩) 3 0], 24, true, 1⟩), (1, ⟨[.int .i64 x1, .int .i64 y1, .int .i64 x2, .int .i64 y2, .int .i64 x3, .int .i64 y3], 27, true, 2⟩)] := by
  refine ac_in Try.func65 (fun w0 W pin => ?_)
  refine aw_p 3 (
    .a 3 2 <| .nil _ _) ?_
  refine aw_sq 6 7 ?_
  refine aw_p 13 (
    .a 3 5 <| .p (does_c (on_in qx qy rx ry px py (by omega) (by omega) (by omega) (by omega) (by omega) (by omega) (by omega) (by omega) (by omega) (by omega) (by omega) (by omega))) <| .a 1 5 <| .nil _ _) ?_
  refine aw_cd 26 27 (!(Sp.onb qx qy rx ry px py)) (fun h1 => ?_) (fun h1 => ?_)
  · refine aw_rt ?_
    refine then_ret ?_
    exact en_ret [] (by kernel_rfl)
  · refine aw_sk ?_
    refine then_normal ?_
    refine aw_sq 14 15 ?_
    refine aw_p 29 (
      .a 3 5 <| .nil _ _) ?_
    refine aw_bl 0 59 ?_
    refine aw_lp 119 ?_
    refine al_round ?_
    refine aw_p 239 (
      .a 1 5 <| .nil _ _) ?_
    refine aw_sq 478 479 ?_
    refine aw_tr 956 ?_
    refine aw_sk ?_
    refine then_normal ?_
    refine aw_sq 958 959 ?_
    refine aw_bl 1 1917 ?_
    refine aw_p 3835 (
      .a 4 5 <| .nil _ _) ?_
    refine aw_p 7671 (
      .a 2 6 <| .p (does_e ((x1 == px) && ((y1 == py) && true)) (rfl)) <| .nil _ _) ?_
    refine aw_cd 15342 15343 ((x1 == px) && ((y1 == py) && true)) (fun h2 => ?_) (fun h2 => ?_)
    · have h2p : ((x1 = px ∧ y1 = py)) := by first | (simpa using h2) | (have h2q := h2; simp at h2q; omega) | (have h2q := bx1 h2; simp at h2q; omega)
      refine aw_rt ?_
      refine block_ret ?_
      refine then_ret ?_
      refine then_ret ?_
      refine block_ret ?_
      refine then_ret ?_
      exact en_ret [] (by kernel_rfl)
    · have h2p : ¬ ((x1 = px ∧ y1 = py)) := by first | (simpa using h2) | (have h2q := h2; simp at h2q; omega) | (have h2q := bx2 h2; simp at h2q; omega)
      refine aw_sk ?_
      refine block_normal ?_
      refine then_normal ?_
      refine aw_p1 (
        .a 2 6 <| .nil _ _) ?_
      refine then_normal ?_
      refine al_round ?_
      refine aw_p 239 (
        .a 1 6 <| .nil _ _) ?_
      refine aw_sq 478 479 ?_
      refine aw_tr 956 ?_
      refine aw_sk ?_
      refine then_normal ?_
      refine aw_sq 958 959 ?_
      refine aw_bl 1 1917 ?_
      refine aw_p 3835 (
        .a 4 6 <| .nil _ _) ?_
      refine aw_p 7671 (
        .a 2 7 <| .p (does_e ((x2 == px) && ((y2 == py) && true)) (rfl)) <| .nil _ _) ?_
      refine aw_cd 15342 15343 ((x2 == px) && ((y2 == py) && true)) (fun h3 => ?_) (fun h3 => ?_)
      · have h3p : ((x2 = px ∧ y2 = py)) := by first | (simpa using h3) | (have h3q := h3; simp at h3q; omega) | (have h3q := bx1 h3; simp at h3q; omega)
        refine aw_rt ?_
        refine block_ret ?_
        refine then_ret ?_
        refine then_ret ?_
        refine block_ret ?_
        refine then_ret ?_
        exact en_ret [] (by kernel_rfl)
      · have h3p : ¬ ((x2 = px ∧ y2 = py)) := by first | (simpa using h3) | (have h3q := h3; simp at h3q; omega) | (have h3q := bx2 h3; simp at h3q; omega)
        refine aw_sk ?_
        refine block_normal ?_
        refine then_normal ?_
        refine aw_p1 (
          .a 2 7 <| .nil _ _) ?_
        refine then_normal ?_
        refine al_round ?_
        refine aw_p 239 (
          .a 1 7 <| .nil _ _) ?_
        refine aw_sq 478 479 ?_
        refine aw_tr 956 ?_
        refine aw_sk ?_
        refine then_normal ?_
        refine aw_sq 958 959 ?_
        refine aw_bl 1 1917 ?_
        refine aw_p 3835 (
          .a 4 7 <| .nil _ _) ?_
        refine aw_p 7671 (
          .a 2 8 <|
          .p (does_e true ((show ((x3 == px) && ((y3 == py) && true)) = true from (by have q := h; simp only [Sp.addb, Sp.has2, List.any_cons, List.any_nil, (show Sp.onb qx qy rx ry px py = true from (by simpa using h1)), h2, h3, Bool.or_false, Bool.false_or, Bool.true_and, Bool.not_eq_false'] at q; exact q)))) <| .nil _ _) ?_
        refine aw_tr 15342 ?_
        refine aw_rt ?_
        refine block_ret ?_
        refine then_ret ?_
        refine then_ret ?_
        refine block_ret ?_
        refine then_ret ?_
        exact en_ret [] (by kernel_rfl)
theorem shadd3A (x1 y1 x2 y2 x3 y3 px py qx qy rx ry : Int) (pxl : -1048576 ≤ px) (pxu : px ≤ 1048576) (pyl : -1048576 ≤ py) (pyu : py ≤ 1048576) (qxl : -1048576 ≤ qx) (qxu : qx ≤ 1048576) (qyl : -1048576 ≤ qy) (qyu : qy ≤ 1048576) (rxl : -1048576 ≤ rx) (rxu : rx ≤ 1048576) (ryl : -1048576 ≤ ry) (ryu : ry ≤ 1048576) (h : Sp.addb [(x1, y1), (x2, y2), (x3, y3)] px py qx qy rx ry = true) :
    AC Try.prog 65 2 ([.agg #[.int .i64 px, .int .i64 py], .agg #[.int .i64 qx, .int .i64 qy], .agg #[.int .i64 rx, .int .i64 ry], .pointer (some ⟨0, 0, none⟩)]) [(0, ⟨[.slice (some ⟨1, 0, none⟩) 3 0], 24, true, 1⟩), (1, ⟨[.int .i64 x1, .int .i64 y1, .int .i64 x2, .int .i64 y2, .int .i64 x3, .int .i64 y3], 27, true, 2⟩)] (.tuple #[]) [(0, ⟨[.slice (some ⟨2, 0, none⟩) 4 0], 24, true, 1⟩), (2, ⟨[.int .i64 x1, .int .i64 y1, .int .i64 x2, .int .i64 y2, .int .i64 x3, .int .i64 y3, .int .i64 px, .int .i64 py], 27, true, 2⟩)] := by
  refine ac_in Try.func65 (fun w0 W pin => ?_)
  refine aw_p 3 (
    .a 3 3 <| .nil _ _) ?_
  refine aw_sq 6 7 ?_
  refine aw_p 13 (
    .a 3 6 <| .p (does_cb _ (on_in qx qy rx ry px py (by omega) (by omega) (by omega) (by omega) (by omega) (by omega) (by omega) (by omega) (by omega) (by omega) (by omega) (by omega)) true ((Sp.addb_on h))) <| .a 1 6 <| .nil _ _) ?_
  refine aw_fl 27 ?_
  refine aw_sk ?_
  refine then_normal ?_
  refine aw_sq 14 15 ?_
  refine aw_p 29 (
    .a 3 6 <| .nil _ _) ?_
  refine aw_bl 0 59 ?_
  refine aw_lp 119 ?_
  refine al_round ?_
  refine aw_p 239 (
    .a 1 6 <| .nil _ _) ?_
  refine aw_sq 478 479 ?_
  refine aw_tr 956 ?_
  refine aw_sk ?_
  refine then_normal ?_
  refine aw_sq 958 959 ?_
  refine aw_bl 1 1917 ?_
  refine aw_p 3835 (
    .a 4 6 <| .nil _ _) ?_
  refine aw_p 7671 (
    .a 2 7 <| .p (does_e false ((show ((x1 == px) && ((y1 == py) && true)) = false from (Sp.has2_mem (l := [(x1, y1), (x2, y2), (x3, y3)]) (x := x1) (y := y1) (by simp) (Sp.addb_no h))))) <| .nil _ _) ?_
  refine aw_fl 15343 ?_
  refine aw_sk ?_
  refine block_normal ?_
  refine then_normal ?_
  refine aw_p1 (
    .a 2 7 <| .nil _ _) ?_
  refine then_normal ?_
  refine al_round ?_
  refine aw_p 239 (
    .a 1 7 <| .nil _ _) ?_
  refine aw_sq 478 479 ?_
  refine aw_tr 956 ?_
  refine aw_sk ?_
  refine then_normal ?_
  refine aw_sq 958 959 ?_
  refine aw_bl 1 1917 ?_
  refine aw_p 3835 (
    .a 4 7 <| .nil _ _) ?_
  refine aw_p 7671 (
    .a 2 8 <| .p (does_e false ((show ((x2 == px) && ((y2 == py) && true)) = false from (Sp.has2_mem (l := [(x1, y1), (x2, y2), (x3, y3)]) (x := x2) (y := y2) (by simp) (Sp.addb_no h))))) <| .nil _ _) ?_
  refine aw_fl 15343 ?_
  refine aw_sk ?_
  refine block_normal ?_
  refine then_normal ?_
  refine aw_p1 (
    .a 2 8 <| .nil _ _) ?_
  refine then_normal ?_
  refine al_round ?_
  refine aw_p 239 (
    .a 1 8 <| .nil _ _) ?_
  refine aw_sq 478 479 ?_
  refine aw_tr 956 ?_
  refine aw_sk ?_
  refine then_normal ?_
  refine aw_sq 958 959 ?_
  refine aw_bl 1 1917 ?_
  refine aw_p 3835 (
    .a 4 8 <| .nil _ _) ?_
  refine aw_p 7671 (
    .a 2 9 <| .p (does_e false ((show ((x3 == px) && ((y3 == py) && true)) = false from (Sp.has2_mem (l := [(x1, y1), (x2, y2), (x3, y3)]) (x := x3) (y := y3) (by simp) (Sp.addb_no h))))) <| .nil _ _) ?_
  refine aw_fl 15343 ?_
  refine aw_sk ?_
  refine block_normal ?_
  refine then_normal ?_
  refine aw_p1 (
    .a 2 9 <| .nil _ _) ?_
  refine then_normal ?_
  refine al_round ?_
  refine aw_p 239 (
    .a 1 9 <| .nil _ _) ?_
  refine aw_sq 478 479 ?_
  refine aw_fl 957 ?_
  refine aw_ex 0 ?_
  refine then_exit ?_
  refine then_exit ?_
  refine block_exit ?_
  refine then_normal ?_
  refine aw_p1 (
    .a 3 9 <| .p (does_ap 2) <| .a 1 10 <| .nil _ _) ?_
  exact en_normal [] (by kernel_rfl)
end Go.Proofs.Ytomnkdlfmjdckaa.Am

namespace Go.Proofs.Ytomnkdlfmjdckaa.Am
open Go Go.Proofs
set_option maxRecDepth 100000
set_option maxHeartbeats 4000000
set_option linter.unusedVariables false
set_option linter.unusedSimpArgs false
theorem shared0000 (ax ay bx b_y cx cy dx dy : Int) (axl : -1048576 ≤ ax) (axu : ax ≤ 1048576) (ayl : -1048576 ≤ ay) (ayu : ay ≤ 1048576) (bxl : -1048576 ≤ bx) (bxu : bx ≤ 1048576) (b_yl : -1048576 ≤ b_y) (b_yu : b_y ≤ 1048576) (cxl : -1048576 ≤ cx) (cxu : cx ≤ 1048576) (cyl : -1048576 ≤ cy) (cyu : cy ≤ 1048576) (dxl : -1048576 ≤ dx) (dxu : dx ≤ 1048576) (dyl : -1048576 ≤ dy) (dyu : dy ≤ 1048576) (g0 : Sp.addb [] ax ay cx cy dx dy = false) (g1 : Sp.addb [] bx b_y cx cy dx dy = false) (g2 : Sp.addb [] cx cy ax ay bx b_y = false) (g3 : Sp.addb [] dx dy ax ay bx b_y = false) :
    AC Try.prog 48 0 ([.agg #[.int .i64 ax, .int .i64 ay], .agg #[.int .i64 bx, .int .i64 b_y], .agg #[.int .i64 cx, .int .i64 cy], .agg #[.int .i64 dx, .int .i64 dy]]) [] (.slice none 0 0) [] := by
  refine ac_in Try.func48 (fun w0 W pin => ?_)
  refine aw_p 3 (
    .a 5 1 <| .nil _ _) ?_
  refine aw_p 7 (
    .a 1 5 <| .nil _ _) ?_
  refine aw_p 15 (
    .a 2 6 <| .nil _ _) ?_
  refine aw_p 31 (
    .a 4 6 <| .p (does_k [5] (shadd0S ax ay cx cy dx dy (by omega) (by omega) (by omega) (by omega) (by omega) (by omega) (by omega) (by omega) (by omega) (by omega) (by omega) (by omega) g0)) <| .nil _ _) ?_
  refine aw_p 63 (
    .a 4 6 <| .p (does_k [5] (shadd0S bx b_y cx cy dx dy (by omega) (by omega) (by omega) (by omega) (by omega) (by omega) (by omega) (by omega) (by omega) (by omega) (by omega) (by omega) g1)) <| .nil _ _) ?_
  refine aw_p 127 (
    .a 4 6 <| .p (does_k [5] (shadd0S cx cy ax ay bx b_y (by omega) (by omega) (by omega) (by omega) (by omega) (by omega) (by omega) (by omega) (by omega) (by omega) (by omega) (by omega) g2)) <| .nil _ _) ?_
  refine aw_p 255 (
    .a 4 6 <| .p (does_k [5] (shadd0S dx dy ax ay bx b_y (by omega) (by omega) (by omega) (by omega) (by omega) (by omega) (by omega) (by omega) (by omega) (by omega) (by omega) (by omega) g3)) <| .nil _ _) ?_
  refine aw_p 511 (
    .a 2 6 <| .nil _ _) ?_
  refine aw_rt ?_
  exact en_ret [.slice none 0 0] (by kernel_rfl)
theorem shared0001 (ax ay bx b_y cx cy dx dy : Int) (axl : -1048576 ≤ ax) (axu : ax ≤ 1048576) (ayl : -1048576 ≤ ay) (ayu : ay ≤ 1048576) (bxl : -1048576 ≤ bx) (bxu : bx ≤ 1048576) (b_yl : -1048576 ≤ b_y) (b_yu : b_y ≤ 1048576) (cxl : -1048576 ≤ cx) (cxu : cx ≤ 1048576) (cyl : -1048576 ≤ cy) (cyu : cy ≤ 1048576) (dxl : -1048576 ≤ dx) (dxu : dx ≤ 1048576) (dyl : -1048576 ≤ dy) (dyu : dy ≤ 1048576) (g0 : Sp.addb [] ax ay cx cy dx dy = false) (g1 : Sp.addb [] bx b_y cx cy dx dy = false) (g2 : Sp.addb [] cx cy ax ay bx b_y = false) (g3 : Sp.addb [] dx dy ax ay bx b_y = true) :
    AC Try.prog 48 0 ([.agg #[.int .i64 ax, .int .i64 ay], .agg #[.int .i64 bx, .int .i64 b_y], .agg #[.int .i64 cx, .int .i64 cy], .agg #[.int .i64 dx, .int .i64 dy]]) [] (.slice (some ⟨0, 0, none⟩) 1 0) [(0, ⟨[.int .i64 dx, .int .i64 dy], 27, true, 2⟩)] := by
  refine ac_in Try.func48 (fun w0 W pin => ?_)
  refine aw_p 3 (
    .a 5 1 <| .nil _ _) ?_
  refine aw_p 7 (
    .a 1 5 <| .nil _ _) ?_
  refine aw_p 15 (
    .a 2 6 <| .nil _ _) ?_
  refine aw_p 31 (
    .a 4 6 <| .p (does_k [5] (shadd0S ax ay cx cy dx dy (by omega) (by omega) (by omega) (by omega) (by omega) (by omega) (by omega) (by omega) (by omega) (by omega) (by omega) (by omega) g0)) <| .nil _ _) ?_
  refine aw_p 63 (
    .a 4 6 <| .p (does_k [5] (shadd0S bx b_y cx cy dx dy (by omega) (by omega) (by omega) (by omega) (by omega) (by omega) (by omega) (by omega) (by omega) (by omega) (by omega) (by omega) g1)) <| .nil _ _) ?_
  refine aw_p 127 (
    .a 4 6 <| .p (does_k [5] (shadd0S cx cy ax ay bx b_y (by omega) (by omega) (by omega) (by omega) (by omega) (by omega) (by omega) (by omega) (by omega) (by omega) (by omega) (by omega) g2)) <| .nil _ _) ?_
  refine aw_p 255 (
    .a 4 6 <| .p (does_k [5, 0] (shadd0A dx dy ax ay bx b_y (by omega) (by omega) (by omega) (by omega) (by omega) (by omega) (by omega) (by omega) (by omega) (by omega) (by omega) (by omega) g3)) <| .nil _ _) ?_
  refine aw_p 511 (
    .a 2 6 <| .nil _ _) ?_
  refine aw_rt ?_
  exact en_ret [.slice (some ⟨0, 0, none⟩) 1 0] (by kernel_rfl)
theorem shared0010 (ax ay bx b_y cx cy dx dy : Int) (axl : -1048576 ≤ ax) (axu : ax ≤ 1048576) (ayl : -1048576 ≤ ay) (ayu : ay ≤ 1048576) (bxl : -1048576 ≤ bx) (bxu : bx ≤ 1048576) (b_yl : -1048576 ≤ b_y) (b_yu : b_y ≤ 1048576) (cxl : -1048576 ≤ cx) (cxu : cx ≤ 1048576) (cyl : -1048576 ≤ cy) (cyu : cy ≤ 1048576) (dxl : -1048576 ≤ dx) (dxu : dx ≤ 1048576) (dyl : -1048576 ≤ dy) (dyu : dy ≤ 1048576) (g0 : Sp.addb [] ax ay cx cy dx dy = false) (g1 : Sp.addb [] bx b_y cx cy dx dy = false) (g2 : Sp.addb [] cx cy ax ay bx b_y = true) (g3 : Sp.addb [(cx, cy)] dx dy ax ay bx b_y = false) :
    AC Try.prog 48 0 ([.agg #[.int .i64 ax, .int .i64 ay], .agg #[.int .i64 bx, .int .i64 b_y], .agg #[.int .i64 cx, .int .i64 cy], .agg #[.int .i64 dx, .int .i64 dy]]) [] (.slice (some ⟨0, 0, none⟩) 1 0) [(0, ⟨[.int .i64 cx, .int .i64 cy], 27, true, 2⟩)] := by
  refine ac_in Try.func48 (fun w0 W pin => ?_)
  refine aw_p 3 (
    .a 5 1 <| .nil _ _) ?_
  refine aw_p 7 (
    .a 1 5 <| .nil _ _) ?_
  refine aw_p 15 (
    .a 2 6 <| .nil _ _) ?_
  refine aw_p 31 (
    .a 4 6 <| .p (does_k [5] (shadd0S ax ay cx cy dx dy (by omega) (by omega) (by omega) (by omega) (by omega) (by omega) (by omega) (by omega) (by omega) (by omega) (by omega) (by omega) g0)) <| .nil _ _) ?_
  refine aw_p 63 (
    .a 4 6 <| .p (does_k [5] (shadd0S bx b_y cx cy dx dy (by omega) (by omega) (by omega) (by omega) (by omega) (by omega) (by omega) (by omega) (by omega) (by omega) (by omega) (by omega) g1)) <| .nil _ _) ?_
  refine aw_p 127 (
    .a 4 6 <| .p (does_k [5, 0] (shadd0A cx cy ax ay bx b_y (by omega) (by omega) (by omega) (by omega) (by omega) (by omega) (by omega) (by omega) (by omega) (by omega) (by omega) (by omega) g2)) <| .nil _ _) ?_
  refine aw_p 255 (
    .a 4 6 <| .p (does_k [5, 0] (shadd1S cx cy dx dy ax ay bx b_y (by omega) (by omega) (by omega) (by omega) (by omega) (by omega) (by omega) (by omega) (by omega) (by omega) (by omega) (by omega) g3)) <| .nil _ _) ?_
  refine aw_p 511 (
    .a 2 6 <| .nil _ _) ?_
  refine aw_rt ?_
  exact en_ret [.slice (some ⟨0, 0, none⟩) 1 0] (by kernel_rfl)
theorem shared0011 (ax ay bx b_y cx cy dx dy : Int) (axl : -1048576 ≤ ax) (axu : ax ≤ 1048576) (ayl : -1048576 ≤ ay) (ayu : ay ≤ 1048576) (bxl : -1048576 ≤ bx) (bxu : bx ≤ 1048576) (b_yl : -1048576 ≤ b_y) (b_yu : b_y ≤ 1048576) (cxl : -1048576 ≤ cx) (cxu : cx ≤ 1048576) (cyl : -1048576 ≤ cy) (cyu : cy ≤ 1048576) (dxl : -1048576 ≤ dx) (dxu : dx ≤ 1048576) (dyl : -1048576 ≤ dy) (dyu : dy ≤ 1048576) (g0 : Sp.addb [] ax ay cx cy dx dy = false) (g1 : Sp.addb [] bx b_y cx cy dx dy = false) (g2 : Sp.addb [] cx cy ax ay bx b_y = true) (g3 : Sp.addb [(cx, cy)] dx dy ax ay bx b_y = true) :
    AC Try.prog 48 0 ([.agg #[.int .i64 ax, .int .i64 ay], .agg #[.int .i64 bx, .int .i64 b_y], .agg #[.int .i64 cx, .int .i64 cy], .agg #[.int .i64 dx, .int .i64 dy]]) [] (.slice (some ⟨0, 0, none⟩) 2 0) [(0, ⟨[.int .i64 cx, .int .i64 cy, .int .i64 dx, .int .i64 dy], 27, true, 2⟩)] := by
  refine ac_in Try.func48 (fun w0 W pin => ?_)
  refine aw_p 3 (
    .a 5 1 <| .nil _ _) ?_
  refine aw_p 7 (
    .a 1 5 <| .nil _ _) ?_
  refine aw_p 15 (
    .a 2 6 <| .nil _ _) ?_
  refine aw_p 31 (
    .a 4 6 <| .p (does_k [5] (shadd0S ax ay cx cy dx dy (by omega) (by omega) (by omega) (by omega) (by omega) (by omega) (by omega) (by omega) (by omega) (by omega) (by omega) (by omega) g0)) <| .nil _ _) ?_
  refine aw_p 63 (
    .a 4 6 <| .p (does_k [5] (shadd0S bx b_y cx cy dx dy (by omega) (by omega) (by omega) (by omega) (by omega) (by omega) (by omega) (by omega) (by omega) (by omega) (by omega) (by omega) g1)) <| .nil _ _) ?_
  refine aw_p 127 (
    .a 4 6 <| .p (does_k [5, 6] (shadd0A cx cy ax ay bx b_y (by omega) (by omega) (by omega) (by omega) (by omega) (by omega) (by omega) (by omega) (by omega) (by omega) (by omega) (by omega) g2)) <| .nil _ _) ?_
  refine aw_p 255 (
    .a 4 7 <| .p (does_k [5, 6, 0] (shadd1A cx cy dx dy ax ay bx b_y (by omega) (by omega) (by omega) (by omega) (by omega) (by omega) (by omega) (by omega) (by omega) (by omega) (by omega) (by omega) g3)) <| .nil _ _) ?_
  refine aw_p 511 (
    .a 2 7 <| .nil _ _) ?_
  refine aw_rt ?_
  exact en_ret [.slice (some ⟨0, 0, none⟩) 2 0] (by kernel_rfl)
theorem shared0100 (ax ay bx b_y cx cy dx dy : Int) (axl : -1048576 ≤ ax) (axu : ax ≤ 1048576) (ayl : -1048576 ≤ ay) (ayu : ay ≤ 1048576) (bxl : -1048576 ≤ bx) (bxu : bx ≤ 1048576) (b_yl : -1048576 ≤ b_y) (b_yu : b_y ≤ 1048576) (cxl : -1048576 ≤ cx) (cxu : cx ≤ 1048576) (cyl : -1048576 ≤ cy) (cyu : cy ≤ 1048576) (dxl : -1048576 ≤ dx) (dxu : dx ≤ 1048576) (dyl : -1048576 ≤ dy) (dyu : dy ≤ 1048576) (g0 : Sp.addb [] ax ay cx cy dx dy = false) (g1 : Sp.addb [] bx b_y cx cy dx dy = true) (g2 : Sp.addb [(bx, b_y)] cx cy ax ay bx b_y = false) (g3 : Sp.addb [(bx, b_y)] dx dy ax ay bx b_y = false) :
    AC Try.prog 48 0 ([.agg #[.int .i64 ax, .int .i64 ay], .agg #[.int .i64 bx, .int .i64 b_y], .agg #[.int .i64 cx, .int .i64 cy], .agg #[.int .i64 dx, .int .i64 dy]]) [] (.slice (some ⟨0, 0, none⟩) 1 0) [(0, ⟨[.int .i64 bx, .int .i64 b_y], 27, true, 2⟩)] := by
  refine ac_in Try.func48 (fun w0 W pin => ?_)
  refine aw_p 3 (
    .a 5 1 <| .nil _ _) ?_
  refine aw_p 7 (
    .a 1 5 <| .nil _ _) ?_
  refine aw_p 15 (
    .a 2 6 <| .nil _ _) ?_
  refine aw_p 31 (
    .a 4 6 <| .p (does_k [5] (shadd0S ax ay cx cy dx dy (by omega) (by omega) (by omega) (by omega) (by omega) (by omega) (by omega) (by omega) (by omega) (by omega) (by omega) (by omega) g0)) <| .nil _ _) ?_
  refine aw_p 63 (
    .a 4 6 <| .p (does_k [5, 0] (shadd0A bx b_y cx cy dx dy (by omega) (by omega) (by omega) (by omega) (by omega) (by omega) (by omega) (by omega) (by omega) (by omega) (by omega) (by omega) g1)) <| .nil _ _) ?_
  refine aw_p 127 (
    .a 4 6 <| .p (does_k [5, 0] (shadd1S bx b_y cx cy ax ay bx b_y (by omega) (by omega) (by omega) (by omega) (by omega) (by omega) (by omega) (by omega) (by omega) (by omega) (by omega) (by omega) g2)) <| .nil _ _) ?_
  refine aw_p 255 (
    .a 4 6 <| .p (does_k [5, 0] (shadd1S bx b_y dx dy ax ay bx b_y (by omega) (by omega) (by omega) (by omega) (by omega) (by omega) (by omega) (by omega) (by omega) (by omega) (by omega) (by omega) g3)) <| .nil _ _) ?_
  refine aw_p 511 (
    .a 2 6 <| .nil _ _) ?_
  refine aw_rt ?_
  exact en_ret [.slice (some ⟨0, 0, none⟩) 1 0] (by kernel_rfl)
theorem shared0101 (ax ay bx b_y cx cy dx dy : Int) (axl : -1048576 ≤ ax) (axu : ax ≤ 1048576) (ayl : -1048576 ≤ ay) (ayu : ay ≤ 1048576) (bxl : -1048576 ≤ bx) (bxu : bx ≤ 1048576) (b_yl : -1048576 ≤ b_y) (b_yu : b_y ≤ 1048576) (cxl : -1048576 ≤ cx) (cxu : cx ≤ 1048576) (cyl : -1048576 ≤ cy) (cyu : cy ≤ 1048576) (dxl : -1048576 ≤ dx) (dxu : dx ≤ 1048576) (dyl : -1048576 ≤ dy) (dyu : dy ≤ 1048576) (g0 : Sp.addb [] ax ay cx cy dx dy = false) (g1 : Sp.addb [] bx b_y cx cy dx dy = true) (g2 : Sp.addb [(bx, b_y)] cx cy ax ay bx b_y = false) (g3 : Sp.addb [(bx, b_y)] dx dy ax ay bx b_y = true) :
    AC Try.prog 48 0 ([.agg #[.int .i64 ax, .int .i64 ay], .agg #[.int .i64 bx, .int .i64 b_y], .agg #[.int .i64 cx, .int .i64 cy], .agg #[.int .i64 dx, .int .i64 dy]]) [] (.slice (some ⟨0, 0, none⟩) 2 0) [(0, ⟨[.int .i64 bx, .int .i64 b_y, .int .i64 dx, .int .i64 dy], 27, true, 2⟩)] := by
  refine ac_in Try.func48 (fun w0 W pin => ?_)
  refine aw_p 3 (
    .a 5 1 <| .nil _ _) ?_
  refine aw_p 7 (
    .a 1 5 <| .nil _ _) ?_
  refine aw_p 15 (
    .a 2 6 <| .nil _ _) ?_
  refine aw_p 31 (
    .a 4 6 <| .p (does_k [5] (shadd0S ax ay cx cy dx dy (by omega) (by omega) (by omega) (by omega) (by omega) (by omega) (by omega) (by omega) (by omega) (by omega) (by omega) (by omega) g0)) <| .nil _ _) ?_
  refine aw_p 63 (
    .a 4 6 <| .p (does_k [5, 6] (shadd0A bx b_y cx cy dx dy (by omega) (by omega) (by omega) (by omega) (by omega) (by omega) (by omega) (by omega) (by omega) (by omega) (by omega) (by omega) g1)) <| .nil _ _) ?_
  refine aw_p 127 (
    .a 4 7 <| .p (does_k [5, 6] (shadd1S bx b_y cx cy ax ay bx b_y (by omega) (by omega) (by omega) (by omega) (by omega) (by omega) (by omega) (by omega) (by omega) (by omega) (by omega) (by omega) g2)) <| .nil _ _) ?_
  refine aw_p 255 (
    .a 4 7 <| .p (does_k [5, 6, 0] (shadd1A bx b_y dx dy ax ay bx b_y (by omega) (by omega) (by omega) (by omega) (by omega) (by omega) (by omega) (by omega) (by omega) (by omega) (by omega) (by omega) g3)) <| .nil _ _) ?_
  refine aw_p 511 (
    .a 2 7 <| .nil _ _) ?_
  refine aw_rt ?_
  exact en_ret [.slice (some ⟨0, 0, none⟩) 2 0] (by kernel_rfl)
theorem shared0110 (ax ay bx b_y cx cy dx dy : Int) (axl : -1048576 ≤ ax) (axu : ax ≤ 1048576) (ayl : -1048576 ≤ ay) (ayu : ay ≤ 1048576) (bxl : -1048576 ≤ bx) (bxu : bx ≤ 1048576) (b_yl : -1048576 ≤ b_y) (b_yu : b_y ≤ 1048576) (cxl : -1048576 ≤ cx) (cxu : cx ≤ 1048576) (cyl : -1048576 ≤ cy) (cyu : cy ≤ 1048576) (dxl : -1048576 ≤ dx) (dxu : dx ≤ 1048576) (dyl : -1048576 ≤ dy) (dyu : dy ≤ 1048576) (g0 : Sp.addb [] ax ay cx cy dx dy = false) (g1 : Sp.addb [] bx b_y cx cy dx dy = true) (g2 : Sp.addb [(bx, b_y)] cx cy ax ay bx b_y = true) (g3 : Sp.addb [(bx, b_y), (cx, cy)] dx dy ax ay bx b_y = false) :
    AC Try.prog 48 0 ([.agg #[.int .i64 ax, .int .i64 ay], .agg #[.int .i64 bx, .int .i64 b_y], .agg #[.int .i64 cx, .int .i64 cy], .agg #[.int .i64 dx, .int .i64 dy]]) [] (.slice (some ⟨0, 0, none⟩) 2 0) [(0, ⟨[.int .i64 bx, .int .i64 b_y, .int .i64 cx, .int .i64 cy], 27, true, 2⟩)] := by
  refine ac_in Try.func48 (fun w0 W pin => ?_)
  refine aw_p 3 (
    .a 5 1 <| .nil _ _) ?_
  refine aw_p 7 (
    .a 1 5 <| .nil _ _) ?_
  refine aw_p 15 (
    .a 2 6 <| .nil _ _) ?_
  refine aw_p 31 (
    .a 4 6 <| .p (does_k [5] (shadd0S ax ay cx cy dx dy (by omega) (by omega) (by omega) (by omega) (by omega) (by omega) (by omega) (by omega) (by omega) (by omega) (by omega) (by omega) g0)) <| .nil _ _) ?_
  refine aw_p 63 (
    .a 4 6 <| .p (does_k [5, 6] (shadd0A bx b_y cx cy dx dy (by omega) (by omega) (by omega) (by omega) (by omega) (by omega) (by omega) (by omega) (by omega) (by omega) (by omega) (by omega) g1)) <| .nil _ _) ?_
  refine aw_p 127 (
    .a 4 7 <| .p (does_k [5, 6, 0] (shadd1A bx b_y cx cy ax ay bx b_y (by omega) (by omega) (by omega) (by omega) (by omega) (by omega) (by omega) (by omega) (by omega) (by omega) (by omega) (by omega) g2)) <| .nil _ _) ?_
  refine aw_p 255 (
    .a 4 7 <| .p (does_k [5, 0] (shadd2S bx b_y cx cy dx dy ax ay bx b_y (by omega) (by omega) (by omega) (by omega) (by omega) (by omega) (by omega) (by omega) (by omega) (by omega) (by omega) (by omega) g3)) <| .nil _ _) ?_
  refine aw_p 511 (
    .a 2 7 <| .nil _ _) ?_
  refine aw_rt ?_
  exact en_ret [.slice (some ⟨0, 0, none⟩) 2 0] (by kernel_rfl)
theorem shared0111 (ax ay bx b_y cx cy dx dy : Int) (axl : -1048576 ≤ ax) (axu : ax ≤ 1048576) (ayl : -1048576 ≤ ay) (ayu : ay ≤ 1048576) (bxl : -1048576 ≤ bx) (bxu : bx ≤ 1048576) (b_yl : -1048576 ≤ b_y) (b_yu : b_y ≤ 1048576) (cxl : -1048576 ≤ cx) (cxu : cx ≤ 1048576) (cyl : -1048576 ≤ cy) (cyu : cy ≤ 1048576) (dxl : -1048576 ≤ dx) (dxu : dx ≤ 1048576) (dyl : -1048576 ≤ dy) (dyu : dy ≤ 1048576) (g0 : Sp.addb [] ax ay cx cy dx dy = false) (g1 : Sp.addb [] bx b_y cx cy dx dy = true) (g2 : Sp.addb [(bx, b_y)] cx cy ax ay bx b_y = true) (g3 : Sp.addb [(bx, b_y), (cx, cy)] dx dy ax ay bx b_y = true) :
    AC Try.prog 48 0 ([.agg #[.int .i64 ax, .int .i64 ay], .agg #[.int .i64 bx, .int .i64 b_y], .agg #[.int .i64 cx, .int .i64 cy], .agg #[.int .i64 dx, .int .i64 dy]]) [] (.slice (some ⟨0, 0, none⟩) 3 0) [(0, ⟨[.int .i64 bx, .int .i64 b_y, .int .i64 cx, .int .i64 cy, .int .i64 dx, .int .i64 dy], 27, true, 2⟩)] := by
  refine ac_in Try.func48 (fun w0 W pin => ?_)
  refine aw_p 3 (
    .a 5 1 <| .nil _ _) ?_
  refine aw_p 7 (
    .a 1 5 <| .nil _ _) ?_
  refine aw_p 15 (
    .a 2 6 <| .nil _ _) ?_
  refine aw_p 31 (
    .a 4 6 <| .p (does_k [5] (shadd0S ax ay cx cy dx dy (by omega) (by omega) (by omega) (by omega) (by omega) (by omega) (by omega) (by omega) (by omega) (by omega) (by omega) (by omega) g0)) <| .nil _ _) ?_
  refine aw_p 63 (
    .a 4 6 <| .p (does_k [5, 6] (shadd0A bx b_y cx cy dx dy (by omega) (by omega) (by omega) (by omega) (by omega) (by omega) (by omega) (by omega) (by omega) (by omega) (by omega) (by omega) g1)) <| .nil _ _) ?_
  refine aw_p 127 (
    .a 4 7 <| .p (does_k [5, 6, 7] (shadd1A bx b_y cx cy ax ay bx b_y (by omega) (by omega) (by omega) (by omega) (by omega) (by omega) (by omega) (by omega) (by omega) (by omega) (by omega) (by omega) g2)) <| .nil _ _) ?_
  refine aw_p 255 (
    .a 4 8 <| .p (does_k [5, 7, 0] (shadd2A bx b_y cx cy dx dy ax ay bx b_y (by omega) (by omega) (by omega) (by omega) (by omega) (by omega) (by omega) (by omega) (by omega) (by omega) (by omega) (by omega) g3)) <| .nil _ _) ?_
  refine aw_p 511 (
    .a 2 8 <| .nil _ _) ?_
  refine aw_rt ?_
  exact en_ret [.slice (some ⟨0, 0, none⟩) 3 0] (by kernel_rfl)
theorem shared1000 (ax ay bx b_y cx cy dx dy : Int) (axl : -1048576 ≤ ax) (axu : ax ≤ 1048576) (ayl : -1048576 ≤ ay) (ayu : ay ≤ 1048576) (bxl : -1048576 ≤ bx) (bxu : bx ≤ 1048576) (b_yl : -1048576 ≤ b_y) (b_yu : b_y ≤ 1048576) (cxl : -1048576 ≤ cx) (cxu : cx ≤ 1048576) (cyl : -1048576 ≤ cy) (cyu : cy ≤ 1048576) (dxl : -1048576 ≤ dx) (dxu : dx ≤ 1048576) (dyl : -1048576 ≤ dy) (dyu : dy ≤ 1048576) (g0 : Sp.addb [] ax ay cx cy dx dy = true) (g1 : Sp.addb [(ax, ay)] bx b_y cx cy dx dy = false) (g2 : Sp.addb [(ax, ay)] cx cy ax ay bx b_y = false) (g3 : Sp.addb [(ax, ay)] dx dy ax ay bx b_y = false) :
    AC Try.prog 48 0 ([.agg #[.int .i64 ax, .int .i64 ay], .agg #[.int .i64 bx, .int .i64 b_y], .agg #[.int .i64 cx, .int .i64 cy], .agg #[.int .i64 dx, .int .i64 dy]]) [] (.slice (some ⟨0, 0, none⟩) 1 0) [(0, ⟨[.int .i64 ax, .int .i64 ay], 27, true, 2⟩)] := by
  refine ac_in Try.func48 (fun w0 W pin => ?_)
  refine aw_p 3 (
    .a 5 1 <| .nil _ _) ?_
  refine aw_p 7 (
    .a 1 5 <| .nil _ _) ?_
  refine aw_p 15 (
    .a 2 6 <| .nil _ _) ?_
  refine aw_p 31 (
    .a 4 6 <| .p (does_k [5, 0] (shadd0A ax ay cx cy dx dy (by omega) (by omega) (by omega) (by omega) (by omega) (by omega) (by omega) (by omega) (by omega) (by omega) (by omega) (by omega) g0)) <| .nil _ _) ?_
  refine aw_p 63 (
    .a 4 6 <| .p (does_k [5, 0] (shadd1S ax ay bx b_y cx cy dx dy (by omega) (by omega) (by omega) (by omega) (by omega) (by omega) (by omega) (by omega) (by omega) (by omega) (by omega) (by omega) g1)) <| .nil _ _) ?_
  refine aw_p 127 (
    .a 4 6 <| .p (does_k [5, 0] (shadd1S ax ay cx cy ax ay bx b_y (by omega) (by omega) (by omega) (by omega) (by omega) (by omega) (by omega) (by omega) (by omega) (by omega) (by omega) (by omega) g2)) <| .nil _ _) ?_
  refine aw_p 255 (
    .a 4 6 <| .p (does_k [5, 0] (shadd1S ax ay dx dy ax ay bx b_y (by omega) (by omega) (by omega) (by omega) (by omega) (by omega) (by omega) (by omega) (by omega) (by omega) (by omega) (by omega) g3)) <| .nil _ _) ?_
  refine aw_p 511 (
    .a 2 6 <| .nil _ _) ?_
  refine aw_rt ?_
  exact en_ret [.slice (some ⟨0, 0, none⟩) 1 0] (by kernel_rfl)
theorem shared1001 (ax ay bx b_y cx cy dx dy : Int) (axl : -1048576 ≤ ax) (axu : ax ≤ 1048576) (ayl : -1048576 ≤ ay) (ayu : ay ≤ 1048576) (bxl : -1048576 ≤ bx) (bxu : bx ≤ 1048576) (b_yl : -1048576 ≤ b_y) (b_yu : b_y ≤ 1048576) (cxl : -1048576 ≤ cx) (cxu : cx ≤ 1048576) (cyl : -1048576 ≤ cy) (cyu : cy ≤ 1048576) (dxl : -1048576 ≤ dx) (dxu : dx ≤ 1048576) (dyl : -1048576 ≤ dy) (dyu : dy ≤ 1048576) (g0 : Sp.addb [] ax ay cx cy dx dy = true) (g1 : Sp.addb [(ax, ay)] bx b_y cx cy dx dy = false) (g2 : Sp.addb [(ax, ay)] cx cy ax ay bx b_y = false) (g3 : Sp.addb [(ax, ay)] dx dy ax ay bx b_y = true) :
    AC Try.prog 48 0 ([.agg #[.int .i64 ax, .int .i64 ay], .agg #[.int .i64 bx, .int .i64 b_y], .agg #[.int .i64 cx, .int .i64 cy], .agg #[.int .i64 dx, .int .i64 dy]]) [] (.slice (some ⟨0, 0, none⟩) 2 0) [(0, ⟨[.int .i64 ax, .int .i64 ay, .int .i64 dx, .int .i64 dy], 27, true, 2⟩)] := by
  refine ac_in Try.func48 (fun w0 W pin => ?_)
  refine aw_p 3 (
    .a 5 1 <| .nil _ _) ?_
  refine aw_p 7 (
    .a 1 5 <| .nil _ _) ?_
  refine aw_p 15 (
    .a 2 6 <| .nil _ _) ?_
  refine aw_p 31 (
    .a 4 6 <| .p (does_k [5, 6] (shadd0A ax ay cx cy dx dy (by omega) (by omega) (by omega) (by omega) (by omega) (by omega) (by omega) (by omega) (by omega) (by omega) (by omega) (by omega) g0)) <| .nil _ _) ?_
  refine aw_p 63 (
    .a 4 7 <| .p (does_k [5, 6] (shadd1S ax ay bx b_y cx cy dx dy (by omega) (by omega) (by omega) (by omega) (by omega) (by omega) (by omega) (by omega) (by omega) (by omega) (by omega) (by omega) g1)) <| .nil _ _) ?_
  refine aw_p 127 (
    .a 4 7 <| .p (does_k [5, 6] (shadd1S ax ay cx cy ax ay bx b_y (by omega) (by omega) (by omega) (by omega) (by omega) (by omega) (by omega) (by omega) (by omega) (by omega) (by omega) (by omega) g2)) <| .nil _ _) ?_
  refine aw_p 255 (
    .a 4 7 <| .p (does_k [5, 6, 0] (shadd1A ax ay dx dy ax ay bx b_y (by omega) (by omega) (by omega) (by omega) (by omega) (by omega) (by omega) (by omega) (by omega) (by omega) (by omega) (by omega) g3)) <| .nil _ _) ?_
  refine aw_p 511 (
    .a 2 7 <| .nil _ _) ?_
  refine aw_rt ?_
  exact en_ret [.slice (some ⟨0, 0, none⟩) 2 0] (by kernel_rfl)
theorem shared1010 (ax ay bx b_y cx cy dx dy : Int) (axl : -1048576 ≤ ax) (axu : ax ≤ 1048576) (ayl : -1048576 ≤ ay) (ayu : ay ≤ 1048576) (bxl : -1048576 ≤ bx) (bxu : bx ≤ 1048576) (b_yl : -1048576 ≤ b_y) (b_yu : b_y ≤ 1048576) (cxl : -1048576 ≤ cx) (cxu : cx ≤ 1048576) (cyl : -1048576 ≤ cy) (cyu : cy ≤ 1048576) (dxl : -1048576 ≤ dx) (dxu : dx ≤ 1048576) (dyl : -1048576 ≤ dy) (dyu : dy ≤ 1048576) (g0 : Sp.addb [] ax ay cx cy dx dy = true) (g1 : Sp.addb [(ax, ay)] bx b_y cx cy dx dy = false) (g2 : Sp.addb [(ax, ay)] cx cy ax ay bx b_y = true) (g3 : Sp.addb [(ax, ay), (cx, cy)] dx dy ax ay bx b_y = false) :
    AC Try.prog 48 0 ([.agg #[.int .i64 ax, .int .i64 ay], .agg #[.int .i64 bx, .int .i64 b_y], .agg #[.int .i64 cx, .int .i64 cy], .agg #[.int .i64 dx, .int .i64 dy]]) [] (.slice (some ⟨0, 0, none⟩) 2 0) [(0, ⟨[.int .i64 ax, .int .i64 ay, .int .i64 cx, .int .i64 cy], 27, true, 2⟩)] := by
  refine ac_in Try.func48 (fun w0 W pin => ?_)
  refine aw_p 3 (
    .a 5 1 <| .nil _ _) ?_
  refine aw_p 7 (
    .a 1 5 <| .nil _ _) ?_
  refine aw_p 15 (
    .a 2 6 <| .nil _ _) ?_
  refine aw_p 31 (
    .a 4 6 <| .p (does_k [5, 6] (shadd0A ax ay cx cy dx dy (by omega) (by omega) (by omega) (by omega) (by omega) (by omega) (by omega) (by omega) (by omega) (by omega) (by omega) (by omega) g0)) <| .nil _ _) ?_
  refine aw_p 63 (
    .a 4 7 <| .p (does_k [5, 6] (shadd1S ax ay bx b_y cx cy dx dy (by omega) (by omega) (by omega) (by omega) (by omega) (by omega) (by omega) (by omega) (by omega) (by omega) (by omega) (by omega) g1)) <| .nil _ _) ?_
  refine aw_p 127 (
    .a 4 7 <| .p (does_k [5, 6, 0] (shadd1A ax ay cx cy ax ay bx b_y (by omega) (by omega) (by omega) (by omega) (by omega) (by omega) (by omega) (by omega) (by omega) (by omega) (by omega) (by omega) g2)) <| .nil _ _) ?_
  refine aw_p 255 (
    .a 4 7 <| .p (does_k [5, 0] (shadd2S ax ay cx cy dx dy ax ay bx b_y (by omega) (by omega) (by omega) (by omega) (by omega) (by omega) (by omega) (by omega) (by omega) (by omega) (by omega) (by omega) g3)) <| .nil _ _) ?_
  refine aw_p 511 (
    .a 2 7 <| .nil _ _) ?_
  refine aw_rt ?_
  exact en_ret [.slice (some ⟨0, 0, none⟩) 2 0] (by kernel_rfl)
theorem shared1011 (ax ay bx b_y cx cy dx dy : Int) (axl : -1048576 ≤ ax) (axu : ax ≤ 1048576) (ayl : -1048576 ≤ ay) (ayu : ay ≤ 1048576) (bxl : -1048576 ≤ bx) (bxu : bx ≤ 1048576) (b_yl : -1048576 ≤ b_y) (b_yu : b_y ≤ 1048576) (cxl : -1048576 ≤ cx) (cxu : cx ≤ 1048576) (cyl : -1048576 ≤ cy) (cyu : cy ≤ 1048576) (dxl : -1048576 ≤ dx) (dxu : dx ≤ 1048576) (dyl : -1048576 ≤ dy) (dyu : dy ≤ 1048576) (g0 : Sp.addb [] ax ay cx cy dx dy = true) (g1 : Sp.addb [(ax, ay)] bx b_y cx cy dx dy = false) (g2 : Sp.addb [(ax, ay)] cx cy ax ay bx b_y = true) (g3 : Sp.addb [(ax, ay), (cx, cy)] dx dy ax ay bx b_y = true) :
    AC Try.prog 48 0 ([.agg #[.int .i64 ax, .int .i64 ay], .agg #[.int .i64 bx, .int .i64 b_y], .agg #[.int .i64 cx, .int .i64 cy], .agg #[.int .i64 dx, .int .i64 dy]]) [] (.slice (some ⟨0, 0, none⟩) 3 0) [(0, ⟨[.int .i64 ax, .int .i64 ay, .int .i64 cx, .int .i64 cy, .int .i64 dx, .int .i64 dy], 27, true, 2⟩)] := by
  refine ac_in Try.func48 (fun w0 W pin => ?_)
  refine aw_p 3 (
    .a 5 1 <| .nil _ _) ?_
  refine aw_p 7 (
    .a 1 5 <| .nil _ _) ?_
  refine aw_p 15 (
    .a 2 6 <| .nil _ _) ?_
  refine aw_p 31 (
    .a 4 6 <| .p (does_k [5, 6] (shadd0A ax ay cx cy dx dy (by omega) (by omega) (by omega) (by omega) (by omega) (by omega) (by omega) (by omega) (by omega) (by omega) (by omega) (by omega) g0)) <| .nil _ _) ?_
  refine aw_p 63 (
    .a 4 7 <| .p (does_k [5, 6] (shadd1S ax ay bx b_y cx cy dx dy (by omega) (by omega) (by omega) (by omega) (by omega) (by omega) (by omega) (by omega) (by omega) (by omega) (by omega) (by omega) g1)) <| .nil _ _) ?_
  refine aw_p 127 (
    .a 4 7 <| .p (does_k [5, 6, 7] (shadd1A ax ay cx cy ax ay bx b_y (by omega) (by omega) (by omega) (by omega) (by omega) (by omega) (by omega) (by omega) (by omega) (by omega) (by omega) (by omega) g2)) <| .nil _ _) ?_
  refine aw_p 255 (
    .a 4 8 <| .p (does_k [5, 7, 0] (shadd2A ax ay cx cy dx dy ax ay bx b_y (by omega) (by omega) (by omega) (by omega) (by omega) (by omega) (by omega) (by omega) (by omega) (by omega) (by omega) (by omega) g3)) <| .nil _ _) ?_
  refine aw_p 511 (
    .a 2 8 <| .nil _ _) ?_
  refine aw_rt ?_
  exact en_ret [.slice (some ⟨0, 0, none⟩) 3 0] (by kernel_rfl)
theorem shared1100 (ax ay bx b_y cx cy dx dy : Int) (axl : -1048576 ≤ ax) (axu : ax ≤ 1048576) (ayl : -1048576 ≤ ay) (ayu : ay ≤ 1048576) (bxl : -1048576 ≤ bx) (bxu : bx ≤ 1048576) (b_yl : -1048576 ≤ b_y) (b_yu : b_y ≤ 1048576) (cxl : -1048576 ≤ cx) (cxu : cx ≤ 1048576) (cyl : -1048576 ≤ cy) (cyu : cy ≤ 1048576) (dxl : -1048576 ≤ dx) (dxu : dx ≤ 1048576) (dyl : -1048576 ≤ dy) (dyu : dy ≤ 1048576) (g0 : Sp.addb [] ax ay cx cy dx dy = true) (g1 : Sp.addb [(ax, ay)] bx b_y cx cy dx dy = true) (g2 : Sp.addb [(ax, ay), (bx, b_y)] cx cy ax ay bx b_y = false) (g3 : Sp.addb [(ax, ay), (bx, b_y)] dx dy ax ay bx b_y = false) :
    AC Try.prog 48 0 ([.agg #[.int .i64 ax, .int .i64 ay], .agg #[.int .i64 bx, .int .i64 b_y], .agg #[.int .i64 cx, .int .i64 cy], .agg #[.int .i64 dx, .int .i64 dy]]) [] (.slice (some ⟨0, 0, none⟩) 2 0) [(0, ⟨[.int .i64 ax, .int .i64 ay, .int .i64 bx, .int .i64 b_y], 27, true, 2⟩)] := by
  refine ac_in Try.func48 (fun w0 W pin => ?_)
  refine aw_p 3 (
    .a 5 1 <| .nil _ _) ?_
  refine aw_p 7 (
    .a 1 5 <| .nil _ _) ?_
  refine aw_p 15 (
    .a 2 6 <| .nil _ _) ?_
  refine aw_p 31 (
    .a 4 6 <| .p (does_k [5, 6] (shadd0A ax ay cx cy dx dy (by omega) (by omega) (by omega) (by omega) (by omega) (by omega) (by omega) (by omega) (by omega) (by omega) (by omega) (by omega) g0)) <| .nil _ _) ?_
  refine aw_p 63 (
    .a 4 7 <| .p (does_k [5, 6, 0] (shadd1A ax ay bx b_y cx cy dx dy (by omega) (by omega) (by omega) (by omega) (by omega) (by omega) (by omega) (by omega) (by omega) (by omega) (by omega) (by omega) g1)) <| .nil _ _) ?_
  refine aw_p 127 (
    .a 4 7 <| .p (does_k [5, 0] (shadd2S ax ay bx b_y cx cy ax ay bx b_y (by omega) (by omega) (by omega) (by omega) (by omega) (by omega) (by omega) (by omega) (by omega) (by omega) (by omega) (by omega) g2)) <| .nil _ _) ?_
  refine aw_p 255 (
    .a 4 7 <| .p (does_k [5, 0] (shadd2S ax ay bx b_y dx dy ax ay bx b_y (by omega) (by omega) (by omega) (by omega) (by omega) (by omega) (by omega) (by omega) (by omega) (by omega) (by omega) (by omega) g3)) <| .nil _ _) ?_
  refine aw_p 511 (
    .a 2 7 <| .nil _ _) ?_
  refine aw_rt ?_
  exact en_ret [.slice (some ⟨0, 0, none⟩) 2 0] (by kernel_rfl)
theorem shared1101 (ax ay bx b_y cx cy dx dy : Int) (axl : -1048576 ≤ ax) (axu : ax ≤ 1048576) (ayl : -1048576 ≤ ay) (ayu : ay ≤ 1048576) (bxl : -1048576 ≤ bx) (bxu : bx ≤ 1048576) (b_yl : -1048576 ≤ b_y) (b_yu : b_y ≤ 1048576) (cxl : -1048576 ≤ cx) (cxu : cx ≤ 1048576) (cyl : -1048576 ≤ cy) (cyu : cy ≤ 1048576) (dxl : -1048576 ≤ dx) (dxu : dx ≤ 1048576) (dyl : -1048576 ≤ dy) (dyu : dy ≤ 1048576) (g0 : Sp.addb [] ax ay cx cy dx dy = true) (g1 : Sp.addb [(ax, ay)] bx b_y cx cy dx dy = true) (g2 : Sp.addb [(ax, ay), (bx, b_y)] cx cy ax ay bx b_y = false) (g3 : Sp.addb [(ax, ay), (bx, b_y)] dx dy ax ay bx b_y = true) :
    AC Try.prog 48 0 ([.agg #[.int .i64 ax, .int .i64 ay], .agg #[.int .i64 bx, .int .i64 b_y], .agg #[.int .i64 cx, .int .i64 cy], .agg #[.int .i64 dx, .int .i64 dy]]) [] (.slice (some ⟨0, 0, none⟩) 3 0) [(0, ⟨[.int .i64 ax, .int .i64 ay, .int .i64 bx, .int .i64 b_y, .int .i64 dx, .int .i64 dy], 27, true, 2⟩)] := by
  refine ac_in Try.func48 (fun w0 W pin => ?_)
  refine aw_p 3 (
    .a 5 1 <| .nil _ _) ?_
  refine aw_p 7 (
    .a 1 5 <| .nil _ _) ?_
  refine aw_p 15 (
    .a 2 6 <| .nil _ _) ?_
  refine aw_p 31 (
    .a 4 6 <| .p (does_k [5, 6] (shadd0A ax ay cx cy dx dy (by omega) (by omega) (by omega) (by omega) (by omega) (by omega) (by omega) (by omega) (by omega) (by omega) (by omega) (by omega) g0)) <| .nil _ _) ?_
  refine aw_p 63 (
    .a 4 7 <| .p (does_k [5, 6, 7] (shadd1A ax ay bx b_y cx cy dx dy (by omega) (by omega) (by omega) (by omega) (by omega) (by omega) (by omega) (by omega) (by omega) (by omega) (by omega) (by omega) g1)) <| .nil _ _) ?_
  refine aw_p 127 (
    .a 4 8 <| .p (does_k [5, 7] (shadd2S ax ay bx b_y cx cy ax ay bx b_y (by omega) (by omega) (by omega) (by omega) (by omega) (by omega) (by omega) (by omega) (by omega) (by omega) (by omega) (by omega) g2)) <| .nil _ _) ?_
  refine aw_p 255 (
    .a 4 8 <| .p (does_k [5, 7, 0] (shadd2A ax ay bx b_y dx dy ax ay bx b_y (by omega) (by omega) (by omega) (by omega) (by omega) (by omega) (by omega) (by omega) (by omega) (by omega) (by omega) (by omega) g3)) <| .nil _ _) ?_
  refine aw_p 511 (
    .a 2 8 <| .nil _ _) ?_
  refine aw_rt ?_
  exact en_ret [.slice (some ⟨0, 0, none⟩) 3 0] (by kernel_rfl)
theorem shared1110 (ax ay bx b_y cx cy dx dy : Int) (axl : -1048576 ≤ ax) (axu : ax ≤ 1048576) (ayl : -1048576 ≤ ay) (ayu : ay ≤ 1048576) (bxl : -1048576 ≤ bx) (bxu : bx ≤ 1048576) (b_yl : -1048576 ≤ b_y) (b_yu : b_y ≤ 1048576) (cxl : -1048576 ≤ cx) (cxu : cx ≤ 1048576) (cyl : -1048576 ≤ cy) (cyu : cy ≤ 1048576) (dxl : -1048576 ≤ dx) (dxu : dx ≤ 1048576) (dyl : -1048576 ≤ dy) (dyu : dy ≤ 1048576) (g0 : Sp.addb [] ax ay cx cy dx dy = true) (g1 : Sp.addb [(ax, ay)] bx b_y cx cy dx dy = true) (g2 : Sp.addb [(ax, ay), (bx, b_y)] cx cy ax ay bx b_y = true) (g3 : Sp.addb [(ax, ay), (bx, b_y), (cx, cy)] dx dy ax ay bx b_y = false) :
    AC Try.prog 48 0 ([.agg #[.int .i64 ax, .int .i64 ay], .agg #[.int .i64 bx, .int .i64 b_y], .agg #[.int .i64 cx, .int .i64 cy], .agg #[.int .i64 dx, .int .i64 dy]]) [] (.slice (some ⟨0, 0, none⟩) 3 0) [(0, ⟨[.int .i64 ax, .int .i64 ay, .int .i64 bx, .int .i64 b_y, .int .i64 cx, .int .i64 cy], 27, true, 2⟩)] := by
  refine ac_in Try.func48 (fun w0 W pin => ?_)
  refine aw_p 3 (
    .a 5 1 <| .nil _ _) ?_
  refine aw_p 7 (
    .a 1 5 <| .nil _ _) ?_
  refine aw_p 15 (
    .a 2 6 <| .nil _ _) ?_
  refine aw_p 31 (
    .a 4 6 <| .p (does_k [5, 6] (shadd0A ax ay cx cy dx dy (by omega) (by omega) (by omega) (by omega) (by omega) (by omega) (by omega) (by omega) (by omega) (by omega) (by omega) (by omega) g0)) <| .nil _ _) ?_
  refine aw_p 63 (
    .a 4 7 <| .p (does_k [5, 6, 7] (shadd1A ax ay bx b_y cx cy dx dy (by omega) (by omega) (by omega) (by omega) (by omega) (by omega) (by omega) (by omega) (by omega) (by omega) (by omega) (by omega) g1)) <| .nil _ _) ?_
  refine aw_p 127 (
    .a 4 8 <| .p (does_k [5, 7, 0] (shadd2A ax ay bx b_y cx cy ax ay bx b_y (by omega) (by omega) (by omega) (by omega) (by omega) (by omega) (by omega) (by omega) (by omega) (by omega) (by omega) (by omega) g2)) <| .nil _ _) ?_
  refine aw_p 255 (
    .a 4 8 <| .p (does_k [5, 0] (shadd3S ax ay bx b_y cx cy dx dy ax ay bx b_y (by omega) (by omega) (by omega) (by omega) (by omega) (by omega) (by omega) (by omega) (by omega) (by omega) (by omega) (by omega) g3)) <| .nil _ _) ?_
  refine aw_p 511 (
    .a 2 8 <| .nil _ _) ?_
  refine aw_rt ?_
  exact en_ret [.slice (some ⟨0, 0, none⟩) 3 0] (by kernel_rfl)
theorem shared1111 (ax ay bx b_y cx cy dx dy : Int) (axl : -1048576 ≤ ax) (axu : ax ≤ 1048576) (ayl : -1048576 ≤ ay) (ayu : ay ≤ 1048576) (bxl : -1048576 ≤ bx) (bxu : bx ≤ 1048576) (b_yl : -1048576 ≤ b_y) (b_yu : b_y ≤ 1048576) (cxl : -1048576 ≤ cx) (cxu : cx ≤ 1048576) (cyl : -1048576 ≤ cy) (cyu : cy ≤ 1048576) (dxl : -1048576 ≤ dx) (dxu : dx ≤ 1048576) (dyl : -1048576 ≤ dy) (dyu : dy ≤ 1048576) (g0 : Sp.addb [] ax ay cx cy dx dy = true) (g1 : Sp.addb [(ax, ay)] bx b_y cx cy dx dy = true) (g2 : Sp.addb [(ax, ay), (bx, b_y)] cx cy ax ay bx b_y = true) (g3 : Sp.addb [(ax, ay), (bx, b_y), (cx, cy)] dx dy ax ay bx b_y = true) :
    AC Try.prog 48 0 ([.agg #[.int .i64 ax, .int .i64 ay], .agg #[.int .i64 bx, .int .i64 b_y], .agg #[.int .i64 cx, .int .i64 cy], .agg #[.int .i64 dx, .int .i64 dy]]) [] (.slice (some ⟨0, 0, none⟩) 4 0) [(0, ⟨[.int .i64 ax, .int .i64 ay, .int .i64 bx, .int .i64 b_y, .int .i64 cx, .int .i64 cy, .int .i64 dx, .int .i64 dy], 27, true, 2⟩)] := by
  refine ac_in Try.func48 (fun w0 W pin => ?_)
  refine aw_p 3 (
    .a 5 1 <| .nil _ _) ?_
  refine aw_p 7 (
    .a 1 5 <| .nil _ _) ?_
  refine aw_p 15 (
    .a 2 6 <| .nil _ _) ?_
  refine aw_p 31 (
    .a 4 6 <| .p (does_k [5, 6] (shadd0A ax ay cx cy dx dy (by omega) (by omega) (by omega) (by omega) (by omega) (by omega) (by omega) (by omega) (by omega) (by omega) (by omega) (by omega) g0)) <| .nil _ _) ?_
  refine aw_p 63 (
    .a 4 7 <| .p (does_k [5, 6, 7] (shadd1A ax ay bx b_y cx cy dx dy (by omega) (by omega) (by omega) (by omega) (by omega) (by omega) (by omega) (by omega) (by omega) (by omega) (by omega) (by omega) g1)) <| .nil _ _) ?_
  refine aw_p 127 (
    .a 4 8 <| .p (does_k [5, 7, 8] (shadd2A ax ay bx b_y cx cy ax ay bx b_y (by omega) (by omega) (by omega) (by omega) (by omega) (by omega) (by omega) (by omega) (by omega) (by omega) (by omega) (by omega) g2)) <| .nil _ _) ?_
  refine aw_p 255 (
    .a 4 9 <| .p (does_k [5, 8, 0] (shadd3A ax ay bx b_y cx cy dx dy ax ay bx b_y (by omega) (by omega) (by omega) (by omega) (by omega) (by omega) (by omega) (by omega) (by omega) (by omega) (by omega) (by omega) g3)) <| .nil _ _) ?_
  refine aw_p 511 (
    .a 2 9 <| .nil _ _) ?_
  refine aw_rt ?_
  exact en_ret [.slice (some ⟨0, 0, none⟩) 4 0] (by kernel_rfl)
end Go.Proofs.Ytomnkdlfmjdckaa.Am

namespace Go.Proofs.Ytomnkdlfmjdckaa.Am
open Go Go.Proofs
set_option maxRecDepth 100000
set_option maxHeartbeats 4000000
set_option linter.unusedVariables false
set_option linter.unusedSimpArgs false
theorem segmeet_any (ax ay bx b_y cx cy dx dy : Int) :
    AC Try.prog 47 0 ([.agg #[.int .i64 ax, .int .i64 ay], .agg #[.int .i64 bx, .int .i64 b_y], .agg #[.int .i64 cx, .int .i64 cy], .agg #[.int .i64 dx, .int .i64 dy]]) [] (.int .i64 (Sp.meetN (Sp.lim 1048576 ax) (Sp.lim 1048576 ay) (Sp.lim 1048576 bx) (Sp.lim 1048576 b_y) (Sp.lim 1048576 cx) (Sp.lim 1048576 cy) (Sp.lim 1048576 dx) (Sp.lim 1048576 dy))) [] := by
  have qax := Sp.lim_bd (m := 1048576) (by decide) ax; have qay := Sp.lim_bd (m := 1048576) (by decide) ay; have qbx := Sp.lim_bd (m := 1048576) (by decide) bx; have qb_y := Sp.lim_bd (m := 1048576) (by decide) b_y; have qcx := Sp.lim_bd (m := 1048576) (by decide) cx; have qcy := Sp.lim_bd (m := 1048576) (by decide) cy; have qdx := Sp.lim_bd (m := 1048576) (by decide) dx; have qdy := Sp.lim_bd (m := 1048576) (by decide) dy; have c0 := clamp_ok ax ay; have c1 := clamp_ok bx b_y; have c2 := clamp_ok cx cy; have c3 := clamp_ok dx dy; generalize Sp.lim 1048576 ax = AX at *; generalize Sp.lim 1048576 ay = AY at *; generalize Sp.lim 1048576 bx = BX at *; generalize Sp.lim 1048576 b_y = B_Y at *; generalize Sp.lim 1048576 cx = CX at *; generalize Sp.lim 1048576 cy = CY at *; generalize Sp.lim 1048576 dx = DX at *; generalize Sp.lim 1048576 dy = DY at *; have cm := Sp.cmp3 AX AY BX B_Y CX CY DX DY
  refine ac_in Try.func47 (fun w0 W pin => ?_)
  refine aw_p 3 (
    .a 5 1 <| .nil _ _) ?_
  refine aw_d 7 (
    .a 1 5 <| .p (does_c (c0)) <| .a 1 5 <| .p (does_c (c1)) <| .a 1 5 <| .p (does_c (c2)) <| .a 1 5 <| .p (does_c (c3)) <| .a 4 5 <| .nil _ _) ?_
  refine aw_sq 14 15 ?_
  rcases Bool.eq_false_or_eq_true (decide (((Sp.cmp (Sp.crs AX AY BX B_Y CX CY) 0) * (Sp.cmp (Sp.crs AX AY BX B_Y DX DY) 0)) < 0)) with h1 | h1
  · have h1p : ((((Sp.cmp (Sp.crs AX AY BX B_Y CX CY) 0) * (Sp.cmp (Sp.crs AX AY BX B_Y DX DY) 0)) < 0)) := by first | (simpa using h1) | (have h1q := h1; simp at h1q; omega) | (have h1q := bx1 h1; simp at h1q; omega)
    refine aw_d 29 (
      .a 3 5 <| .p (does_c (turn_in AX AY BX B_Y CX CY (by omega) (by omega) (by omega) (by omega) (by omega) (by omega) (by omega) (by omega) (by omega) (by omega) (by omega) (by omega))) <| .a 3 5 <|
      .p (does_c (turn_in AX AY BX B_Y DX DY (by omega) (by omega) (by omega) (by omega) (by omega) (by omega) (by omega) (by omega) (by omega) (by omega) (by omega) (by omega))) <|
      .p (does_i ((Sp.cmp (Sp.crs AX AY BX B_Y CX CY) 0) * (Sp.cmp (Sp.crs AX AY BX B_Y DX DY) 0)) (wrap_i64 (by omega) (by omega)) .i64) <| .p (does_b true (h1)) <| .a 4 5 <|
      .p (does_c (turn_in CX CY DX DY AX AY (by omega) (by omega) (by omega) (by omega) (by omega) (by omega) (by omega) (by omega) (by omega) (by omega) (by omega) (by omega))) <| .a 3 5 <|
      .p (does_c (turn_in CX CY DX DY BX B_Y (by omega) (by omega) (by omega) (by omega) (by omega) (by omega) (by omega) (by omega) (by omega) (by omega) (by omega) (by omega))) <|
      .p (does_i ((Sp.cmp (Sp.crs CX CY DX DY AX AY) 0) * (Sp.cmp (Sp.crs CX CY DX DY BX B_Y) 0)) (wrap_i64 (by omega) (by omega)) .i64) <| .a 2 5 <| .nil _ _) ?_
    refine aw_cd 58 59 (decide (((Sp.cmp (Sp.crs CX CY DX DY AX AY) 0) * (Sp.cmp (Sp.crs CX CY DX DY BX B_Y) 0)) < 0)) (fun h2 => ?_) (fun h2 => ?_)
    · have h2p : ((((Sp.cmp (Sp.crs CX CY DX DY AX AY) 0) * (Sp.cmp (Sp.crs CX CY DX DY BX B_Y) 0)) < 0)) := by first | (simpa using h2) | (have h2q := h2; simp at h2q; omega) | (have h2q := bx1 h2; simp at h2q; omega)
      refine aw_p 117 (
        .a 1 5 <| .nil _ _) ?_
      refine aw_rt ?_
      refine then_ret ?_
      exact en_ret [.int .i64 1] (show (.int .i64 1 : Value) = (.int .i64 (Sp.meetN AX AY BX B_Y CX CY DX DY)) from (congrArg (Value.int .i64) (show 1 = (Sp.meetN AX AY BX B_Y CX CY DX DY) from by exact (if_pos (show Sp.prp AX AY BX B_Y CX CY DX DY = true from by simp [Sp.prp, *])).symm)))
    · have h2p : ¬ ((((Sp.cmp (Sp.crs CX CY DX DY AX AY) 0) * (Sp.cmp (Sp.crs CX CY DX DY BX B_Y) 0)) < 0)) := by first | (simpa using h2) | (have h2q := h2; simp at h2q; omega) | (have h2q := bx2 h2; simp at h2q; omega)
      refine aw_sk ?_
      refine then_normal ?_
      rcases Bool.eq_false_or_eq_true (Sp.addb [] AX AY CX CY DX DY) with h3 | h3
      · rcases Bool.eq_false_or_eq_true (Sp.addb [(AX, AY)] BX B_Y CX CY DX DY) with h4 | h4
        · rcases Bool.eq_false_or_eq_true (Sp.addb [(AX, AY), (BX, B_Y)] CX CY AX AY BX B_Y) with h5 | h5
          · rcases Bool.eq_false_or_eq_true (Sp.addb [(AX, AY), (BX, B_Y), (CX, CY)] DX DY AX AY BX B_Y) with h6 | h6
            · refine aw_p 31 (
                .a 4 5 <| .p (does_k [5] (shared1111 AX AY BX B_Y CX CY DX DY (by omega) (by omega) (by omega) (by omega) (by omega) (by omega) (by omega) (by omega) (by omega) (by omega) (by omega) (by omega) (by omega) (by omega) (by omega) (by omega) h3 h4 h5 h6)) <| .a 3 6 <| .nil _ _) ?_
              refine aw_rt ?_
              exact en_ret [.int .i64 2] (show (.int .i64 2 : Value) = (.int .i64 (Sp.meetN AX AY BX B_Y CX CY DX DY)) from (congrArg (Value.int .i64) (show 2 = (Sp.meetN AX AY BX B_Y CX CY DX DY) from by (unfold Sp.meetN; rw [if_neg (show ¬ Sp.prp AX AY BX B_Y CX CY DX DY = true from by simp [Sp.prp, *])]; unfold Sp.shr; rw [(show Sp.addp [] AX AY CX CY DX DY = [(AX, AY)] from Sp.addp_y h3), (show Sp.addp [(AX, AY)] BX B_Y CX CY DX DY = [(AX, AY), (BX, B_Y)] from Sp.addp_y h4), (show Sp.addp [(AX, AY), (BX, B_Y)] CX CY AX AY BX B_Y = [(AX, AY), (BX, B_Y), (CX, CY)] from Sp.addp_y h5), (show Sp.addp [(AX, AY), (BX, B_Y), (CX, CY)] DX DY AX AY BX B_Y = [(AX, AY), (BX, B_Y), (CX, CY), (DX, DY)] from Sp.addp_y h6)]; rfl))))
            · refine aw_p 31 (
                .a 4 5 <| .p (does_k [5] (shared1110 AX AY BX B_Y CX CY DX DY (by omega) (by omega) (by omega) (by omega) (by omega) (by omega) (by omega) (by omega) (by omega) (by omega) (by omega) (by omega) (by omega) (by omega) (by omega) (by omega) h3 h4 h5 h6)) <| .a 3 6 <| .nil _ _) ?_
              refine aw_rt ?_
              exact en_ret [.int .i64 2] (show (.int .i64 2 : Value) = (.int .i64 (Sp.meetN AX AY BX B_Y CX CY DX DY)) from (congrArg (Value.int .i64) (show 2 = (Sp.meetN AX AY BX B_Y CX CY DX DY) from by (unfold Sp.meetN; rw [if_neg (show ¬ Sp.prp AX AY BX B_Y CX CY DX DY = true from by simp [Sp.prp, *])]; unfold Sp.shr; rw [(show Sp.addp [] AX AY CX CY DX DY = [(AX, AY)] from Sp.addp_y h3), (show Sp.addp [(AX, AY)] BX B_Y CX CY DX DY = [(AX, AY), (BX, B_Y)] from Sp.addp_y h4), (show Sp.addp [(AX, AY), (BX, B_Y)] CX CY AX AY BX B_Y = [(AX, AY), (BX, B_Y), (CX, CY)] from Sp.addp_y h5), (show Sp.addp [(AX, AY), (BX, B_Y), (CX, CY)] DX DY AX AY BX B_Y = [(AX, AY), (BX, B_Y), (CX, CY)] from Sp.addp_n h6)]; rfl))))
          · rcases Bool.eq_false_or_eq_true (Sp.addb [(AX, AY), (BX, B_Y)] DX DY AX AY BX B_Y) with h7 | h7
            · refine aw_p 31 (
                .a 4 5 <| .p (does_k [5] (shared1101 AX AY BX B_Y CX CY DX DY (by omega) (by omega) (by omega) (by omega) (by omega) (by omega) (by omega) (by omega) (by omega) (by omega) (by omega) (by omega) (by omega) (by omega) (by omega) (by omega) h3 h4 h5 h7)) <| .a 3 6 <| .nil _ _) ?_
              refine aw_rt ?_
              exact en_ret [.int .i64 2] (show (.int .i64 2 : Value) = (.int .i64 (Sp.meetN AX AY BX B_Y CX CY DX DY)) from (congrArg (Value.int .i64) (show 2 = (Sp.meetN AX AY BX B_Y CX CY DX DY) from by (unfold Sp.meetN; rw [if_neg (show ¬ Sp.prp AX AY BX B_Y CX CY DX DY = true from by simp [Sp.prp, *])]; unfold Sp.shr; rw [(show Sp.addp [] AX AY CX CY DX DY = [(AX, AY)] from Sp.addp_y h3), (show Sp.addp [(AX, AY)] BX B_Y CX CY DX DY = [(AX, AY), (BX, B_Y)] from Sp.addp_y h4), (show Sp.addp [(AX, AY), (BX, B_Y)] CX CY AX AY BX B_Y = [(AX, AY), (BX, B_Y)] from Sp.addp_n h5), (show Sp.addp [(AX, AY), (BX, B_Y)] DX DY AX AY BX B_Y = [(AX, AY), (BX, B_Y), (DX, DY)] from Sp.addp_y h7)]; rfl))))
            · refine aw_p 31 (
                .a 4 5 <| .p (does_k [5] (shared1100 AX AY BX B_Y CX CY DX DY (by omega) (by omega) (by omega) (by omega) (by omega) (by omega) (by omega) (by omega) (by omega) (by omega) (by omega) (by omega) (by omega) (by omega) (by omega) (by omega) h3 h4 h5 h7)) <| .a 3 6 <| .nil _ _) ?_
              refine aw_rt ?_
              exact en_ret [.int .i64 2] (show (.int .i64 2 : Value) = (.int .i64 (Sp.meetN AX AY BX B_Y CX CY DX DY)) from (congrArg (Value.int .i64) (show 2 = (Sp.meetN AX AY BX B_Y CX CY DX DY) from by (unfold Sp.meetN; rw [if_neg (show ¬ Sp.prp AX AY BX B_Y CX CY DX DY = true from by simp [Sp.prp, *])]; unfold Sp.shr; rw [(show Sp.addp [] AX AY CX CY DX DY = [(AX, AY)] from Sp.addp_y h3), (show Sp.addp [(AX, AY)] BX B_Y CX CY DX DY = [(AX, AY), (BX, B_Y)] from Sp.addp_y h4), (show Sp.addp [(AX, AY), (BX, B_Y)] CX CY AX AY BX B_Y = [(AX, AY), (BX, B_Y)] from Sp.addp_n h5), (show Sp.addp [(AX, AY), (BX, B_Y)] DX DY AX AY BX B_Y = [(AX, AY), (BX, B_Y)] from Sp.addp_n h7)]; rfl))))
        · rcases Bool.eq_false_or_eq_true (Sp.addb [(AX, AY)] CX CY AX AY BX B_Y) with h8 | h8
          · rcases Bool.eq_false_or_eq_true (Sp.addb [(AX, AY), (CX, CY)] DX DY AX AY BX B_Y) with h9 | h9
            · refine aw_p 31 (
                .a 4 5 <| .p (does_k [5] (shared1011 AX AY BX B_Y CX CY DX DY (by omega) (by omega) (by omega) (by omega) (by omega) (by omega) (by omega) (by omega) (by omega) (by omega) (by omega) (by omega) (by omega) (by omega) (by omega) (by omega) h3 h4 h8 h9)) <| .a 3 6 <| .nil _ _) ?_
              refine aw_rt ?_
              exact en_ret [.int .i64 2] (show (.int .i64 2 : Value) = (.int .i64 (Sp.meetN AX AY BX B_Y CX CY DX DY)) from (congrArg (Value.int .i64) (show 2 = (Sp.meetN AX AY BX B_Y CX CY DX DY) from by (unfold Sp.meetN; rw [if_neg (show ¬ Sp.prp AX AY BX B_Y CX CY DX DY = true from by simp [Sp.prp, *])]; unfold Sp.shr; rw [(show Sp.addp [] AX AY CX CY DX DY = [(AX, AY)] from Sp.addp_y h3), (show Sp.addp [(AX, AY)] BX B_Y CX CY DX DY = [(AX, AY)] from Sp.addp_n h4), (show Sp.addp [(AX, AY)] CX CY AX AY BX B_Y = [(AX, AY), (CX, CY)] from Sp.addp_y h8), (show Sp.addp [(AX, AY), (CX, CY)] DX DY AX AY BX B_Y = [(AX, AY), (CX, CY), (DX, DY)] from Sp.addp_y h9)]; rfl))))
            · refine aw_p 31 (
                .a 4 5 <| .p (does_k [5] (shared1010 AX AY BX B_Y CX CY DX DY (by omega) (by omega) (by omega) (by omega) (by omega) (by omega) (by omega) (by omega) (by omega) (by omega) (by omega) (by omega) (by omega) (by omega) (by omega) (by omega) h3 h4 h8 h9)) <| .a 3 6 <| .nil _ _) ?_
              refine aw_rt ?_
              exact en_ret [.int .i64 2] (show (.int .i64 2 : Value) = (.int .i64 (Sp.meetN AX AY BX B_Y CX CY DX DY)) from (congrArg (Value.int .i64) (show 2 = (Sp.meetN AX AY BX B_Y CX CY DX DY) from by (unfold Sp.meetN; rw [if_neg (show ¬ Sp.prp AX AY BX B_Y CX CY DX DY = true from by simp [Sp.prp, *])]; unfold Sp.shr; rw [(show Sp.addp [] AX AY CX CY DX DY = [(AX, AY)] from Sp.addp_y h3), (show Sp.addp [(AX, AY)] BX B_Y CX CY DX DY = [(AX, AY)] from Sp.addp_n h4), (show Sp.addp [(AX, AY)] CX CY AX AY BX B_Y = [(AX, AY), (CX, CY)] from Sp.addp_y h8), (show Sp.addp [(AX, AY), (CX, CY)] DX DY AX AY BX B_Y = [(AX, AY), (CX, CY)] from Sp.addp_n h9)]; rfl))))
          · rcases Bool.eq_false_or_eq_true (Sp.addb [(AX, AY)] DX DY AX AY BX B_Y) with h10 | h10
            · refine aw_p 31 (
                .a 4 5 <| .p (does_k [5] (shared1001 AX AY BX B_Y CX CY DX DY (by omega) (by omega) (by omega) (by omega) (by omega) (by omega) (by omega) (by omega) (by omega) (by omega) (by omega) (by omega) (by omega) (by omega) (by omega) (by omega) h3 h4 h8 h10)) <| .a 3 6 <| .nil _ _) ?_
              refine aw_rt ?_
              exact en_ret [.int .i64 2] (show (.int .i64 2 : Value) = (.int .i64 (Sp.meetN AX AY BX B_Y CX CY DX DY)) from (congrArg (Value.int .i64) (show 2 = (Sp.meetN AX AY BX B_Y CX CY DX DY) from by (unfold Sp.meetN; rw [if_neg (show ¬ Sp.prp AX AY BX B_Y CX CY DX DY = true from by simp [Sp.prp, *])]; unfold Sp.shr; rw [(show Sp.addp [] AX AY CX CY DX DY = [(AX, AY)] from Sp.addp_y h3), (show Sp.addp [(AX, AY)] BX B_Y CX CY DX DY = [(AX, AY)] from Sp.addp_n h4), (show Sp.addp [(AX, AY)] CX CY AX AY BX B_Y = [(AX, AY)] from Sp.addp_n h8), (show Sp.addp [(AX, AY)] DX DY AX AY BX B_Y = [(AX, AY), (DX, DY)] from Sp.addp_y h10)]; rfl))))
            · refine aw_p 31 (
                .a 4 5 <| .p (does_k [5] (shared1000 AX AY BX B_Y CX CY DX DY (by omega) (by omega) (by omega) (by omega) (by omega) (by omega) (by omega) (by omega) (by omega) (by omega) (by omega) (by omega) (by omega) (by omega) (by omega) (by omega) h3 h4 h8 h10)) <| .a 3 6 <| .nil _ _) ?_
              refine aw_rt ?_
              exact en_ret [.int .i64 1] (show (.int .i64 1 : Value) = (.int .i64 (Sp.meetN AX AY BX B_Y CX CY DX DY)) from (congrArg (Value.int .i64) (show 1 = (Sp.meetN AX AY BX B_Y CX CY DX DY) from by (unfold Sp.meetN; rw [if_neg (show ¬ Sp.prp AX AY BX B_Y CX CY DX DY = true from by simp [Sp.prp, *])]; unfold Sp.shr; rw [(show Sp.addp [] AX AY CX CY DX DY = [(AX, AY)] from Sp.addp_y h3), (show Sp.addp [(AX, AY)] BX B_Y CX CY DX DY = [(AX, AY)] from Sp.addp_n h4), (show Sp.addp [(AX, AY)] CX CY AX AY BX B_Y = [(AX, AY)] from Sp.addp_n h8), (show Sp.addp [(AX, AY)] DX DY AX AY BX B_Y = [(AX, AY)] from Sp.addp_n h10)]; rfl))))
      · rcases Bool.eq_false_or_eq_true (Sp.addb [] BX B_Y CX CY DX DY) with h11 | h11
        · rcases Bool.eq_false_or_eq_true (Sp.addb [(BX, B_Y)] CX CY AX AY BX B_Y) with h12 | h12
          · rcases Bool.eq_false_or_eq_true (Sp.addb [(BX, B_Y), (CX, CY)] DX DY AX AY BX B_Y) with h13 | h13
            · refine aw_p 31 (
                .a 4 5 <| .p (does_k [5] (shared0111 AX AY BX B_Y CX CY DX DY (by omega) (by omega) (by omega) (by omega) (by omega) (by omega) (by omega) (by omega) (by omega) (by omega) (by omega) (by omega) (by omega) (by omega) (by omega) (by omega) h3 h11 h12 h13)) <| .a 3 6 <| .nil _ _) ?_
              refine aw_rt ?_
              exact en_ret [.int .i64 2] (show (.int .i64 2 : Value) = (.int .i64 (Sp.meetN AX AY BX B_Y CX CY DX DY)) from (congrArg (Value.int .i64) (show 2 = (Sp.meetN AX AY BX B_Y CX CY DX DY) from by (unfold Sp.meetN; rw [if_neg (show ¬ Sp.prp AX AY BX B_Y CX CY DX DY = true from by simp [Sp.prp, *])]; unfold Sp.shr; rw [(show Sp.addp [] AX AY CX CY DX DY = [] from Sp.addp_n h3), (show Sp.addp [] BX B_Y CX CY DX DY = [(BX, B_Y)] from Sp.addp_y h11), (show Sp.addp [(BX, B_Y)] CX CY AX AY BX B_Y = [(BX, B_Y), (CX, CY)] from Sp.addp_y h12), (show Sp.addp [(BX, B_Y), (CX, CY)] DX DY AX AY BX B_Y = [(BX, B_Y), (CX, CY), (DX, DY)] from Sp.addp_y h13)]; rfl))))
            · refine aw_p 31 (
                .a 4 5 <| .p (does_k [5] (shared0110 AX AY BX B_Y CX CY DX DY (by omega) (by omega) (by omega) (by omega) (by omega) (by omega) (by omega) (by omega) (by omega) (by omega) (by omega) (by omega) (by omega) (by omega) (by omega) (by omega) h3 h11 h12 h13)) <| .a 3 6 <| .nil _ _) ?_
              refine aw_rt ?_
              exact en_ret [.int .i64 2] (show (.int .i64 2 : Value) = (.int .i64 (Sp.meetN AX AY BX B_Y CX CY DX DY)) from (congrArg (Value.int .i64) (show 2 = (Sp.meetN AX AY BX B_Y CX CY DX DY) from by (unfold Sp.meetN; rw [if_neg (show ¬ Sp.prp AX AY BX B_Y CX CY DX DY = true from by simp [Sp.prp, *])]; unfold Sp.shr; rw [(show Sp.addp [] AX AY CX CY DX DY = [] from Sp.addp_n h3), (show Sp.addp [] BX B_Y CX CY DX DY = [(BX, B_Y)] from Sp.addp_y h11), (show Sp.addp [(BX, B_Y)] CX CY AX AY BX B_Y = [(BX, B_Y), (CX, CY)] from Sp.addp_y h12), (show Sp.addp [(BX, B_Y), (CX, CY)] DX DY AX AY BX B_Y = [(BX, B_Y), (CX, CY)] from Sp.addp_n h13)]; rfl))))
          · rcases Bool.eq_false_or_eq_true (Sp.addb [(BX, B_Y)] DX DY AX AY BX B_Y) with h14 | h14
            · refine aw_p 31 (
                .a 4 5 <| .p (does_k [5] (shared0101 AX AY BX B_Y CX CY DX DY (by omega) (by omega) (by omega) (by omega) (by omega) (by omega) (by omega) (by omega) (by omega) (by omega) (by omega) (by omega) (by omega) (by omega) (by omega) (by omega) h3 h11 h12 h14)) <| .a 3 6 <| .nil _ _) ?_
              refine aw_rt ?_
              exact en_ret [.int .i64 2] (show (.int .i64 2 : Value) = (.int .i64 (Sp.meetN AX AY BX B_Y CX CY DX DY)) from (congrArg (Value.int .i64) (show 2 = (Sp.meetN AX AY BX B_Y CX CY DX DY) from by (unfold Sp.meetN; rw [if_neg (show ¬ Sp.prp AX AY BX B_Y CX CY DX DY = true from by simp [Sp.prp, *])]; unfold Sp.shr; rw [(show Sp.addp [] AX AY CX CY DX DY = [] from Sp.addp_n h3), (show Sp.addp [] BX B_Y CX CY DX DY = [(BX, B_Y)] from Sp.addp_y h11), (show Sp.addp [(BX, B_Y)] CX CY AX AY BX B_Y = [(BX, B_Y)] from Sp.addp_n h12), (show Sp.addp [(BX, B_Y)] DX DY AX AY BX B_Y = [(BX, B_Y), (DX, DY)] from Sp.addp_y h14)]; rfl))))
            · refine aw_p 31 (
                .a 4 5 <| .p (does_k [5] (shared0100 AX AY BX B_Y CX CY DX DY (by omega) (by omega) (by omega) (by omega) (by omega) (by omega) (by omega) (by omega) (by omega) (by omega) (by omega) (by omega) (by omega) (by omega) (by omega) (by omega) h3 h11 h12 h14)) <| .a 3 6 <| .nil _ _) ?_
              refine aw_rt ?_
              exact en_ret [.int .i64 1] (show (.int .i64 1 : Value) = (.int .i64 (Sp.meetN AX AY BX B_Y CX CY DX DY)) from (congrArg (Value.int .i64) (show 1 = (Sp.meetN AX AY BX B_Y CX CY DX DY) from by (unfold Sp.meetN; rw [if_neg (show ¬ Sp.prp AX AY BX B_Y CX CY DX DY = true from by simp [Sp.prp, *])]; unfold Sp.shr; rw [(show Sp.addp [] AX AY CX CY DX DY = [] from Sp.addp_n h3), (show Sp.addp [] BX B_Y CX CY DX DY = [(BX, B_Y)] from Sp.addp_y h11), (show Sp.addp [(BX, B_Y)] CX CY AX AY BX B_Y = [(BX, B_Y)] from Sp.addp_n h12), (show Sp.addp [(BX, B_Y)] DX DY AX AY BX B_Y = [(BX, B_Y)] from Sp.addp_n h14)]; rfl))))
        · rcases Bool.eq_false_or_eq_true (Sp.addb [] CX CY AX AY BX B_Y) with h15 | h15
          · rcases Bool.eq_false_or_eq_true (Sp.addb [(CX, CY)] DX DY AX AY BX B_Y) with h16 | h16
            · refine aw_p 31 (
                .a 4 5 <| .p (does_k [5] (shared0011 AX AY BX B_Y CX CY DX DY (by omega) (by omega) (by omega) (by omega) (by omega) (by omega) (by omega) (by omega) (by omega) (by omega) (by omega) (by omega) (by omega) (by omega) (by omega) (by omega) h3 h11 h15 h16)) <| .a 3 6 <| .nil _ _) ?_
              refine aw_rt ?_
              exact en_ret [.int .i64 2] (show (.int .i64 2 : Value) = (.int .i64 (Sp.meetN AX AY BX B_Y CX CY DX DY)) from (congrArg (Value.int .i64) (show 2 = (Sp.meetN AX AY BX B_Y CX CY DX DY) from by (unfold Sp.meetN; rw [if_neg (show ¬ Sp.prp AX AY BX B_Y CX CY DX DY = true from by simp [Sp.prp, *])]; unfold Sp.shr; rw [(show Sp.addp [] AX AY CX CY DX DY = [] from Sp.addp_n h3), (show Sp.addp [] BX B_Y CX CY DX DY = [] from Sp.addp_n h11), (show Sp.addp [] CX CY AX AY BX B_Y = [(CX, CY)] from Sp.addp_y h15), (show Sp.addp [(CX, CY)] DX DY AX AY BX B_Y = [(CX, CY), (DX, DY)] from Sp.addp_y h16)]; rfl))))
            · refine aw_p 31 (
                .a 4 5 <| .p (does_k [5] (shared0010 AX AY BX B_Y CX CY DX DY (by omega) (by omega) (by omega) (by omega) (by omega) (by omega) (by omega) (by omega) (by omega) (by omega) (by omega) (by omega) (by omega) (by omega) (by omega) (by omega) h3 h11 h15 h16)) <| .a 3 6 <| .nil _ _) ?_
              refine aw_rt ?_
              exact en_ret [.int .i64 1] (show (.int .i64 1 : Value) = (.int .i64 (Sp.meetN AX AY BX B_Y CX CY DX DY)) from (congrArg (Value.int .i64) (show 1 = (Sp.meetN AX AY BX B_Y CX CY DX DY) from by (unfold Sp.meetN; rw [if_neg (show ¬ Sp.prp AX AY BX B_Y CX CY DX DY = true from by simp [Sp.prp, *])]; unfold Sp.shr; rw [(show Sp.addp [] AX AY CX CY DX DY = [] from Sp.addp_n h3), (show Sp.addp [] BX B_Y CX CY DX DY = [] from Sp.addp_n h11), (show Sp.addp [] CX CY AX AY BX B_Y = [(CX, CY)] from Sp.addp_y h15), (show Sp.addp [(CX, CY)] DX DY AX AY BX B_Y = [(CX, CY)] from Sp.addp_n h16)]; rfl))))
          · rcases Bool.eq_false_or_eq_true (Sp.addb [] DX DY AX AY BX B_Y) with h17 | h17
            · refine aw_p 31 (
                .a 4 5 <| .p (does_k [5] (shared0001 AX AY BX B_Y CX CY DX DY (by omega) (by omega) (by omega) (by omega) (by omega) (by omega) (by omega) (by omega) (by omega) (by omega) (by omega) (by omega) (by omega) (by omega) (by omega) (by omega) h3 h11 h15 h17)) <| .a 3 6 <| .nil _ _) ?_
              refine aw_rt ?_
              exact en_ret [.int .i64 1] (show (.int .i64 1 : Value) = (.int .i64 (Sp.meetN AX AY BX B_Y CX CY DX DY)) from (congrArg (Value.int .i64) (show 1 = (Sp.meetN AX AY BX B_Y CX CY DX DY) from by (unfold Sp.meetN; rw [if_neg (show ¬ Sp.prp AX AY BX B_Y CX CY DX DY = true from by simp [Sp.prp, *])]; unfold Sp.shr; rw [(show Sp.addp [] AX AY CX CY DX DY = [] from Sp.addp_n h3), (show Sp.addp [] BX B_Y CX CY DX DY = [] from Sp.addp_n h11), (show Sp.addp [] CX CY AX AY BX B_Y = [] from Sp.addp_n h15), (show Sp.addp [] DX DY AX AY BX B_Y = [(DX, DY)] from Sp.addp_y h17)]; rfl))))
            · refine aw_p 31 (
                .a 4 5 <| .p (does_k [] (shared0000 AX AY BX B_Y CX CY DX DY (by omega) (by omega) (by omega) (by omega) (by omega) (by omega) (by omega) (by omega) (by omega) (by omega) (by omega) (by omega) (by omega) (by omega) (by omega) (by omega) h3 h11 h15 h17)) <| .a 3 5 <| .nil _ _) ?_
              refine aw_rt ?_
              exact en_ret [.int .i64 0] (show (.int .i64 0 : Value) = (.int .i64 (Sp.meetN AX AY BX B_Y CX CY DX DY)) from (congrArg (Value.int .i64) (show 0 = (Sp.meetN AX AY BX B_Y CX CY DX DY) from by (unfold Sp.meetN; rw [if_neg (show ¬ Sp.prp AX AY BX B_Y CX CY DX DY = true from by simp [Sp.prp, *])]; unfold Sp.shr; rw [(show Sp.addp [] AX AY CX CY DX DY = [] from Sp.addp_n h3), (show Sp.addp [] BX B_Y CX CY DX DY = [] from Sp.addp_n h11), (show Sp.addp [] CX CY AX AY BX B_Y = [] from Sp.addp_n h15), (show Sp.addp [] DX DY AX AY BX B_Y = [] from Sp.addp_n h17)]; rfl))))
  · have h1p : ¬ ((((Sp.cmp (Sp.crs AX AY BX B_Y CX CY) 0) * (Sp.cmp (Sp.crs AX AY BX B_Y DX DY) 0)) < 0)) := by first | (simpa using h1) | (have h1q := h1; simp at h1q; omega) | (have h1q := bx2 h1; simp at h1q; omega)
    refine aw_d 29 (
      .a 3 5 <| .p (does_c (turn_in AX AY BX B_Y CX CY (by omega) (by omega) (by omega) (by omega) (by omega) (by omega) (by omega) (by omega) (by omega) (by omega) (by omega) (by omega))) <| .a 3 5 <|
      .p (does_c (turn_in AX AY BX B_Y DX DY (by omega) (by omega) (by omega) (by omega) (by omega) (by omega) (by omega) (by omega) (by omega) (by omega) (by omega) (by omega))) <|
      .p (does_i ((Sp.cmp (Sp.crs AX AY BX B_Y CX CY) 0) * (Sp.cmp (Sp.crs AX AY BX B_Y DX DY) 0)) (wrap_i64 (by omega) (by omega)) .i64) <| .p (does_b false (h1)) <| .a 12 5 <| .nil _ _) ?_
    refine aw_fl 59 ?_
    refine aw_sk ?_
    refine then_normal ?_
    rcases Bool.eq_false_or_eq_true (Sp.addb [] AX AY CX CY DX DY) with h18 | h18
    · rcases Bool.eq_false_or_eq_true (Sp.addb [(AX, AY)] BX B_Y CX CY DX DY) with h19 | h19
      · rcases Bool.eq_false_or_eq_true (Sp.addb [(AX, AY), (BX, B_Y)] CX CY AX AY BX B_Y) with h20 | h20
        · rcases Bool.eq_false_or_eq_true (Sp.addb [(AX, AY), (BX, B_Y), (CX, CY)] DX DY AX AY BX B_Y) with h21 | h21
          · refine aw_p 31 (
              .a 4 5 <| .p (does_k [5] (shared1111 AX AY BX B_Y CX CY DX DY (by omega) (by omega) (by omega) (by omega) (by omega) (by omega) (by omega) (by omega) (by omega) (by omega) (by omega) (by omega) (by omega) (by omega) (by omega) (by omega) h18 h19 h20 h21)) <| .a 3 6 <| .nil _ _) ?_
            refine aw_rt ?_
            exact en_ret [.int .i64 2] (show (.int .i64 2 : Value) = (.int .i64 (Sp.meetN AX AY BX B_Y CX CY DX DY)) from (congrArg (Value.int .i64) (show 2 = (Sp.meetN AX AY BX B_Y CX CY DX DY) from by (unfold Sp.meetN; rw [if_neg (show ¬ Sp.prp AX AY BX B_Y CX CY DX DY = true from by simp [Sp.prp, *])]; unfold Sp.shr; rw [(show Sp.addp [] AX AY CX CY DX DY = [(AX, AY)] from Sp.addp_y h18), (show Sp.addp [(AX, AY)] BX B_Y CX CY DX DY = [(AX, AY), (BX, B_Y)] from Sp.addp_y h19), (show Sp.addp [(AX, AY), (BX, B_Y)] CX CY AX AY BX B_Y = [(AX, AY), (BX, B_Y), (CX, CY)] from Sp.addp_y h20), (show Sp.addp [(AX, AY), (BX, B_Y), (CX, CY)] DX DY AX AY BX B_Y = [(AX, AY), (BX, B_Y), (CX, CY), (DX, DY)] from Sp.addp_y h21)]; rfl))))
          · refine aw_p 31 (
              .a 4 5 <| .p (does_k [5] (shared1110 AX AY BX B_Y CX CY DX DY (by omega) (by omega) (by omega) (by omega) (by omega) (by omega) (by omega) (by omega) (by omega) (by omega) (by omega) (by omega) (by omega) (by omega) (by omega) (by omega) h18 h19 h20 h21)) <| .a 3 6 <| .nil _ _) ?_
            refine aw_rt ?_
            exact en_ret [.int .i64 2] (show (.int .i64 2 : Value) = (.int .i64 (Sp.meetN AX AY BX B_Y CX CY DX DY)) from (congrArg (Value.int .i64) (show 2 = (Sp.meetN AX AY BX B_Y CX CY DX DY) from by (unfold Sp.meetN; rw [if_neg (show ¬ Sp.prp AX AY BX B_Y CX CY DX DY = true from by simp [Sp.prp, *])]; unfold Sp.shr; rw [(show Sp.addp [] AX AY CX CY DX DY = [(AX, AY)] from Sp.addp_y h18), (show Sp.addp [(AX, AY)] BX B_Y CX CY DX DY = [(AX, AY), (BX, B_Y)] from Sp.addp_y h19), (show Sp.addp [(AX, AY), (BX, B_Y)] CX CY AX AY BX B_Y = [(AX, AY), (BX, B_Y), (CX, CY)] from Sp.addp_y h20), (show Sp.addp [(AX, AY), (BX, B_Y), (CX, CY)] DX DY AX AY BX B_Y = [(AX, AY), (BX, B_Y), (CX, CY)] from Sp.addp_n h21)]; rfl))))
        · rcases Bool.eq_false_or_eq_true (Sp.addb [(AX, AY), (BX, B_Y)] DX DY AX AY BX B_Y) with h22 | h22
          · refine aw_p 31 (
              .a 4 5 <| .p (does_k [5] (shared1101 AX AY BX B_Y CX CY DX DY (by omega) (by omega) (by omega) (by omega) (by omega) (by omega) (by omega) (by omega) (by omega) (by omega) (by omega) (by omega) (by omega) (by omega) (by omega) (by omega) h18 h19 h20 h22)) <| .a 3 6 <| .nil _ _) ?_
            refine aw_rt ?_
            exact en_ret [.int .i64 2] (show (.int .i64 2 : Value) = (.int .i64 (Sp.meetN AX AY BX B_Y CX CY DX DY)) from (congrArg (Value.int .i64) (show 2 = (Sp.meetN AX AY BX B_Y CX CY DX DY) from by (unfold Sp.meetN; rw [if_neg (show ¬ Sp.prp AX AY BX B_Y CX CY DX DY = true from by simp [Sp.prp, *])]; unfold Sp.shr; rw [(show Sp.addp [] AX AY CX CY DX DY = [(AX, AY)] from Sp.addp_y h18), (show Sp.addp [(AX, AY)] BX B_Y CX CY DX DY = [(AX, AY), (BX, B_Y)] from Sp.addp_y h19), (show Sp.addp [(AX, AY), (BX, B_Y)] CX CY AX AY BX B_Y = [(AX, AY), (BX, B_Y)] from Sp.addp_n h20), (show Sp.addp [(AX, AY), (BX, B_Y)] DX DY AX AY BX B_Y = [(AX, AY), (BX, B_Y), (DX, DY)] from Sp.addp_y h22)]; rfl))))
          · refine aw_p 31 (
              .a 4 5 <| .p (does_k [5] (shared1100 AX AY BX B_Y CX CY DX DY (by omega) (by omega) (by omega) (by omega) (by omega) (by omega) (by omega) (by omega) (by omega) (by omega) (by omega) (by omega) (by omega) (by omega) (by omega) (by omega) h18 h19 h20 h22)) <| .a 3 6 <| .nil _ _) ?_
            refine aw_rt ?_
            exact en_ret [.int .i64 2] (show (.int .i64 2 : Value) = (.int .i64 (Sp.meetN AX AY BX B_Y CX CY DX DY)) from (congrArg (Value.int .i64) (show 2 = (Sp.meetN AX AY BX B_Y CX CY DX DY) from by (unfold Sp.meetN; rw [if_neg (show ¬ Sp.prp AX AY BX B_Y CX CY DX DY = true from by simp [Sp.prp, *])]; unfold Sp.shr; rw [(show Sp.addp [] AX AY CX CY DX DY = [(AX, AY)] from Sp.addp_y h18), (show Sp.addp [(AX, AY)] BX B_Y CX CY DX DY = [(AX, AY), (BX, B_Y)] from Sp.addp_y h19), (show Sp.addp [(AX, AY), (BX, B_Y)] CX CY AX AY BX B_Y = [(AX, AY), (BX, B_Y)] from Sp.addp_n h20), (show Sp.addp [(AX, AY), (BX, B_Y)] DX DY AX AY BX B_Y = [(AX, AY), (BX, B_Y)] from Sp.addp_n h22)]; rfl))))
      · rcases Bool.eq_false_or_eq_true (Sp.addb [(AX, AY)] CX CY AX AY BX B_Y) with h23 | h23
        · rcases Bool.eq_false_or_eq_true (Sp.addb [(AX, AY), (CX, CY)] DX DY AX AY BX B_Y) with h24 | h24
          · refine aw_p 31 (
              .a 4 5 <| .p (does_k [5] (shared1011 AX AY BX B_Y CX CY DX DY (by omega) (by omega) (by omega) (by omega) (by omega) (by omega) (by omega) (by omega) (by omega) (by omega) (by omega) (by omega) (by omega) (by omega) (by omega) (by omega) h18 h19 h23 h24)) <| .a 3 6 <| .nil _ _) ?_
            refine aw_rt ?_
            exact en_ret [.int .i64 2] (show (.int .i64 2 : Value) = (.int .i64 (Sp.meetN AX AY BX B_Y CX CY DX DY)) from (congrArg (Value.int .i64) (show 2 = (Sp.meetN AX AY BX B_Y CX CY DX DY) from by (unfold Sp.meetN; rw [if_neg (show ¬ Sp.prp AX AY BX B_Y CX CY DX DY = true from by simp [Sp.prp, *])]; unfold Sp.shr; rw [(show Sp.addp [] AX AY CX CY DX DY = [(AX, AY)] from Sp.addp_y h18), (show Sp.addp [(AX, AY)] BX B_Y CX CY DX DY = [(AX, AY)] from Sp.addp_n h19), (show Sp.addp [(AX, AY)] CX CY AX AY BX B_Y = [(AX, AY), (CX, CY)] from Sp.addp_y h23), (show Sp.addp [(AX, AY), (CX, CY)] DX DY AX AY BX B_Y = [(AX, AY), (CX, CY), (DX, DY)] from Sp.addp_y h24)]; rfl))))
          · refine aw_p 31 (
              .a 4 5 <| .p (does_k [5] (shared1010 AX AY BX B_Y CX CY DX DY (by omega) (by omega) (by omega) (by omega) (by omega) (by omega) (by omega) (by omega) (by omega) (by omega) (by omega) (by omega) (by omega) (by omega) (by omega) (by omega) h18 h19 h23 h24)) <| .a 3 6 <| .nil _ _) ?_
            refine aw_rt ?_
            exact en_ret [.int .i64 2] (show (.int .i64 2 : Value) = (.int .i64 (Sp.meetN AX AY BX B_Y CX CY DX DY)) from (congrArg (Value.int .i64) (show 2 = (Sp.meetN AX AY BX B_Y CX CY DX DY) from by (unfold Sp.meetN; rw [if_neg (show ¬ Sp.prp AX AY BX B_Y CX CY DX DY = true from by simp [Sp.prp, *])]; unfold Sp.shr; rw [(show Sp.addp [] AX AY CX CY DX DY = [(AX, AY)] from Sp.addp_y h18), (show Sp.addp [(AX, AY)] BX B_Y CX CY DX DY = [(AX, AY)] from Sp.addp_n h19), (show Sp.addp [(AX, AY)] CX CY AX AY BX B_Y = [(AX, AY), (CX, CY)] from Sp.addp_y h23), (show Sp.addp [(AX, AY), (CX, CY)] DX DY AX AY BX B_Y = [(AX, AY), (CX, CY)] from Sp.addp_n h24)]; rfl))))
        · rcases Bool.eq_false_or_eq_true (Sp.addb [(AX, AY)] DX DY AX AY BX B_Y) with h25 | h25
          · refine aw_p 31 (
              .a 4 5 <| .p (does_k [5] (shared1001 AX AY BX B_Y CX CY DX DY (by omega) (by omega) (by omega) (by omega) (by omega) (by omega) (by omega) (by omega) (by omega) (by omega) (by omega) (by omega) (by omega) (by omega) (by omega) (by omega) h18 h19 h23 h25)) <| .a 3 6 <| .nil _ _) ?_
            refine aw_rt ?_
            exact en_ret [.int .i64 2] (show (.int .i64 2 : Value) = (.int .i64 (Sp.meetN AX AY BX B_Y CX CY DX DY)) from (congrArg (Value.int .i64) (show 2 = (Sp.meetN AX AY BX B_Y CX CY DX DY) from by (unfold Sp.meetN; rw [if_neg (show ¬ Sp.prp AX AY BX B_Y CX CY DX DY = true from by simp [Sp.prp, *])]; unfold Sp.shr; rw [(show Sp.addp [] AX AY CX CY DX DY = [(AX, AY)] from Sp.addp_y h18), (show Sp.addp [(AX, AY)] BX B_Y CX CY DX DY = [(AX, AY)] from Sp.addp_n h19), (show Sp.addp [(AX, AY)] CX CY AX AY BX B_Y = [(AX, AY)] from Sp.addp_n h23), (show Sp.addp [(AX, AY)] DX DY AX AY BX B_Y = [(AX, AY), (DX, DY)] from Sp.addp_y h25)]; rfl))))
          · refine aw_p 31 (
              .a 4 5 <| .p (does_k [5] (shared1000 AX AY BX B_Y CX CY DX DY (by omega) (by omega) (by omega) (by omega) (by omega) (by omega) (by omega) (by omega) (by omega) (by omega) (by omega) (by omega) (by omega) (by omega) (by omega) (by omega) h18 h19 h23 h25)) <| .a 3 6 <| .nil _ _) ?_
            refine aw_rt ?_
            exact en_ret [.int .i64 1] (show (.int .i64 1 : Value) = (.int .i64 (Sp.meetN AX AY BX B_Y CX CY DX DY)) from (congrArg (Value.int .i64) (show 1 = (Sp.meetN AX AY BX B_Y CX CY DX DY) from by (unfold Sp.meetN; rw [if_neg (show ¬ Sp.prp AX AY BX B_Y CX CY DX DY = true from by simp [Sp.prp, *])]; unfold Sp.shr; rw [(show Sp.addp [] AX AY CX CY DX DY = [(AX, AY)] from Sp.addp_y h18), (show Sp.addp [(AX, AY)] BX B_Y CX CY DX DY = [(AX, AY)] from Sp.addp_n h19), (show Sp.addp [(AX, AY)] CX CY AX AY BX B_Y = [(AX, AY)] from Sp.addp_n h23), (show Sp.addp [(AX, AY)] DX DY AX AY BX B_Y = [(AX, AY)] from Sp.addp_n h25)]; rfl))))
    · rcases Bool.eq_false_or_eq_true (Sp.addb [] BX B_Y CX CY DX DY) with h26 | h26
      · rcases Bool.eq_false_or_eq_true (Sp.addb [(BX, B_Y)] CX CY AX AY BX B_Y) with h27 | h27
        · rcases Bool.eq_false_or_eq_true (Sp.addb [(BX, B_Y), (CX, CY)] DX DY AX AY BX B_Y) with h28 | h28
          · refine aw_p 31 (
              .a 4 5 <| .p (does_k [5] (shared0111 AX AY BX B_Y CX CY DX DY (by omega) (by omega) (by omega) (by omega) (by omega) (by omega) (by omega) (by omega) (by omega) (by omega) (by omega) (by omega) (by omega) (by omega) (by omega) (by omega) h18 h26 h27 h28)) <| .a 3 6 <| .nil _ _) ?_
            refine aw_rt ?_
            exact en_ret [.int .i64 2] (show (.int .i64 2 : Value) = (.int .i64 (Sp.meetN AX AY BX B_Y CX CY DX DY)) from (congrArg (Value.int .i64) (show 2 = (Sp.meetN AX AY BX B_Y CX CY DX DY) from by (unfold Sp.meetN; rw [if_neg (show ¬ Sp.prp AX AY BX B_Y CX CY DX DY = true from by simp [Sp.prp, *])]; unfold Sp.shr; rw [(show Sp.addp [] AX AY CX CY DX DY = [] from Sp.addp_n h18), (show Sp.addp [] BX B_Y CX CY DX DY = [(BX, B_Y)] from Sp.addp_y h26), (show Sp.addp [(BX, B_Y)] CX CY AX AY BX B_Y = [(BX, B_Y), (CX, CY)] from Sp.addp_y h27), (show Sp.addp [(BX, B_Y), (CX, CY)] DX DY AX AY BX B_Y = [(BX, B_Y), (CX, CY), (DX, DY)] from Sp.addp_y h28)]; rfl))))
          · refine aw_p 31 (
              .a 4 5 <| .p (does_k [5] (shared0110 AX AY BX B_Y CX CY DX DY (by omega) (by omega) (by omega) (by omega) (by omega) (by omega) (by omega) (by omega) (by omega) (by omega) (by omega) (by omega) (by omega) (by omega) (by omega) (by omega) h18 h26 h27 h28)) <| .a 3 6 <| .nil _ _) ?_
            refine aw_rt ?_
            exact en_ret [.int .i64 2] (show (.int .i64 2 : Value) = (.int .i64 (Sp.meetN AX AY BX B_Y CX CY DX DY)) from (congrArg (Value.int .i64) (show 2 = (Sp.meetN AX AY BX B_Y CX CY DX DY) from by (unfold Sp.meetN; rw [if_neg (show ¬ Sp.prp AX AY BX B_Y CX CY DX DY = true from by simp [Sp.prp, *])]; unfold Sp.shr; rw [(show Sp.addp [] AX AY CX CY DX DY = [] from Sp.addp_n h18), (show Sp.addp [] BX B_Y CX CY DX DY = [(BX, B_Y)] from Sp.addp_y h26), (show Sp.addp [(BX, B_Y)] CX CY AX AY BX B_Y = [(BX, B_Y), (CX, CY)] from Sp.addp_y h27), (show Sp.addp [(BX, B_Y), (CX, CY)] DX DY AX AY BX B_Y = [(BX, B_Y), (CX, CY)] from Sp.addp_n h28)]; rfl))))
        · rcases Bool.eq_false_or_eq_true (Sp.addb [(BX, B_Y)] DX DY AX AY BX B_Y) with h29 | h29
          · refine aw_p 31 (
              .a 4 5 <| .p (does_k [5] (shared0101 AX AY BX B_Y CX CY DX DY (by omega) (by omega) (by omega) (by omega) (by omega) (by omega) (by omega) (by omega) (by omega) (by omega) (by omega) (by omega) (by omega) (by omega) (by omega) (by omega) h18 h26 h27 h29)) <| .a 3 6 <| .nil _ _) ?_
            refine aw_rt ?_
            exact en_ret [.int .i64 2] (show (.int .i64 2 : Value) = (.int .i64 (Sp.meetN AX AY BX B_Y CX CY DX DY)) from (congrArg (Value.int .i64) (show 2 = (Sp.meetN AX AY BX B_Y CX CY DX DY) from by (unfold Sp.meetN; rw [if_neg (show ¬ Sp.prp AX AY BX B_Y CX CY DX DY = true from by simp [Sp.prp, *])]; unfold Sp.shr; rw [(show Sp.addp [] AX AY CX CY DX DY = [] from Sp.addp_n h18), (show Sp.addp [] BX B_Y CX CY DX DY = [(BX, B_Y)] from Sp.addp_y h26), (show Sp.addp [(BX, B_Y)] CX CY AX AY BX B_Y = [(BX, B_Y)] from Sp.addp_n h27), (show Sp.addp [(BX, B_Y)] DX DY AX AY BX B_Y = [(BX, B_Y), (DX, DY)] from Sp.addp_y h29)]; rfl))))
          · refine aw_p 31 (
              .a 4 5 <| .p (does_k [5] (shared0100 AX AY BX B_Y CX CY DX DY (by omega) (by omega) (by omega) (by omega) (by omega) (by omega) (by omega) (by omega) (by omega) (by omega) (by omega) (by omega) (by omega) (by omega) (by omega) (by omega) h18 h26 h27 h29)) <| .a 3 6 <| .nil _ _) ?_
            refine aw_rt ?_
            exact en_ret [.int .i64 1] (show (.int .i64 1 : Value) = (.int .i64 (Sp.meetN AX AY BX B_Y CX CY DX DY)) from (congrArg (Value.int .i64) (show 1 = (Sp.meetN AX AY BX B_Y CX CY DX DY) from by (unfold Sp.meetN; rw [if_neg (show ¬ Sp.prp AX AY BX B_Y CX CY DX DY = true from by simp [Sp.prp, *])]; unfold Sp.shr; rw [(show Sp.addp [] AX AY CX CY DX DY = [] from Sp.addp_n h18), (show Sp.addp [] BX B_Y CX CY DX DY = [(BX, B_Y)] from Sp.addp_y h26), (show Sp.addp [(BX, B_Y)] CX CY AX AY BX B_Y = [(BX, B_Y)] from Sp.addp_n h27), (show Sp.addp [(BX, B_Y)] DX DY AX AY BX B_Y = [(BX, B_Y)] from Sp.addp_n h29)]; rfl))))
      · rcases Bool.eq_false_or_eq_true (Sp.addb [] CX CY AX AY BX B_Y) with h30 | h30
        · rcases Bool.eq_false_or_eq_true (Sp.addb [(CX, CY)] DX DY AX AY BX B_Y) with h31 | h31
          · refine aw_p 31 (
              .a 4 5 <| .p (does_k [5] (shared0011 AX AY BX B_Y CX CY DX DY (by omega) (by omega) (by omega) (by omega) (by omega) (by omega) (by omega) (by omega) (by omega) (by omega) (by omega) (by omega) (by omega) (by omega) (by omega) (by omega) h18 h26 h30 h31)) <| .a 3 6 <| .nil _ _) ?_
            refine aw_rt ?_
            exact en_ret [.int .i64 2] (show (.int .i64 2 : Value) = (.int .i64 (Sp.meetN AX AY BX B_Y CX CY DX DY)) from (congrArg (Value.int .i64) (show 2 = (Sp.meetN AX AY BX B_Y CX CY DX DY) from by (unfold Sp.meetN; rw [if_neg (show ¬ Sp.prp AX AY BX B_Y CX CY DX DY = true from by simp [Sp.prp, *])]; unfold Sp.shr; rw [(show Sp.addp [] AX AY CX CY DX DY = [] from Sp.addp_n h18), (show Sp.addp [] BX B_Y CX CY DX DY = [] from Sp.addp_n h26), (show Sp.addp [] CX CY AX AY BX B_Y = [(CX, CY)] from Sp.addp_y h30), (show Sp.addp [(CX, CY)] DX DY AX AY BX B_Y = [(CX, CY), (DX, DY)] from Sp.addp_y h31)]; rfl))))
          · refine aw_p 31 (
              .a 4 5 <| .p (does_k [5] (shared0010 AX AY BX B_Y CX CY DX DY (by omega) (by omega) (by omega) (by omega) (by omega) (by omega) (by omega) (by omega) (by omega) (by omega) (by omega) (by omega) (by omega) (by omega) (by omega) (by omega) h18 h26 h30 h31)) <| .a 3 6 <| .nil _ _) ?_
            refine aw_rt ?_
            exact en_ret [.int .i64 1] (show (.int .i64 1 : Value) = (.int .i64 (Sp.meetN AX AY BX B_Y CX CY DX DY)) from (congrArg (Value.int .i64) (show 1 = (Sp.meetN AX AY BX B_Y CX CY DX DY) from by (unfold Sp.meetN; rw [if_neg (show ¬ Sp.prp AX AY BX B_Y CX CY DX DY = true from by simp [Sp.prp, *])]; unfold Sp.shr; rw [(show Sp.addp [] AX AY CX CY DX DY = [] from Sp.addp_n h18), (show Sp.addp [] BX B_Y CX CY DX DY = [] from Sp.addp_n h26), (show Sp.addp [] CX CY AX AY BX B_Y = [(CX, CY)] from Sp.addp_y h30), (show Sp.addp [(CX, CY)] DX DY AX AY BX B_Y = [(CX, CY)] from Sp.addp_n h31)]; rfl))))
        · rcases Bool.eq_false_or_eq_true (Sp.addb [] DX DY AX AY BX B_Y) with h32 | h32
          · refine aw_p 31 (
              .a 4 5 <| .p (does_k [5] (shared0001 AX AY BX B_Y CX CY DX DY (by omega) (by omega) (by omega) (by omega) (by omega) (by omega) (by omega) (by omega) (by omega) (by omega) (by omega) (by omega) (by omega) (by omega) (by omega) (by omega) h18 h26 h30 h32)) <| .a 3 6 <| .nil _ _) ?_
            refine aw_rt ?_
            exact en_ret [.int .i64 1] (show (.int .i64 1 : Value) = (.int .i64 (Sp.meetN AX AY BX B_Y CX CY DX DY)) from (congrArg (Value.int .i64) (show 1 = (Sp.meetN AX AY BX B_Y CX CY DX DY) from by (unfold Sp.meetN; rw [if_neg (show ¬ Sp.prp AX AY BX B_Y CX CY DX DY = true from by simp [Sp.prp, *])]; unfold Sp.shr; rw [(show Sp.addp [] AX AY CX CY DX DY = [] from Sp.addp_n h18), (show Sp.addp [] BX B_Y CX CY DX DY = [] from Sp.addp_n h26), (show Sp.addp [] CX CY AX AY BX B_Y = [] from Sp.addp_n h30), (show Sp.addp [] DX DY AX AY BX B_Y = [(DX, DY)] from Sp.addp_y h32)]; rfl))))
          · refine aw_p 31 (
              .a 4 5 <| .p (does_k [] (shared0000 AX AY BX B_Y CX CY DX DY (by omega) (by omega) (by omega) (by omega) (by omega) (by omega) (by omega) (by omega) (by omega) (by omega) (by omega) (by omega) (by omega) (by omega) (by omega) (by omega) h18 h26 h30 h32)) <| .a 3 5 <| .nil _ _) ?_
            refine aw_rt ?_
            exact en_ret [.int .i64 0] (show (.int .i64 0 : Value) = (.int .i64 (Sp.meetN AX AY BX B_Y CX CY DX DY)) from (congrArg (Value.int .i64) (show 0 = (Sp.meetN AX AY BX B_Y CX CY DX DY) from by (unfold Sp.meetN; rw [if_neg (show ¬ Sp.prp AX AY BX B_Y CX CY DX DY = true from by simp [Sp.prp, *])]; unfold Sp.shr; rw [(show Sp.addp [] AX AY CX CY DX DY = [] from Sp.addp_n h18), (show Sp.addp [] BX B_Y CX CY DX DY = [] from Sp.addp_n h26), (show Sp.addp [] CX CY AX AY BX B_Y = [] from Sp.addp_n h30), (show Sp.addp [] DX DY AX AY BX B_Y = [] from Sp.addp_n h32)]; rfl))))
end Go.Proofs.Ytomnkdlfmjdckaa.Am

namespace Go.Proofs.Ytomnkdlfmjdckaa.Am
open Go Go.Proofs
set_option maxRecDepth 100000
set_option maxHeartbeats 4000000
set_option linter.unusedVariables false
set_option linter.unusedSimpArgs false
theorem notok_ok (x y : Int) :
    AC Try.prog 37 0 ([.agg #[.int .i64 x, .int .i64 y]]) [] (.bool (Sp.nok (x, y))) [] := by
  refine ac_in Try.func37 (fun w0 W pin => ?_)
  refine aw_p 3 (
    .a 2 1 <| .nil _ _) ?_
  refine aw_p 7 (
    .a 1 2 <| .p (does_c (pok_ok x y)) <| .a 2 2 <| .nil _ _) ?_
  refine aw_rt ?_
  exact en_ret [.bool (!((x == (Sp.lim 1048576 x)) && ((y == (Sp.lim 1048576 y)) && true)))] (show (.bool (!((x == (Sp.lim 1048576 x)) && ((y == (Sp.lim 1048576 y)) && true))) : Value) = (.bool (Sp.nok (x, y))) from (congrArg Value.bool (show (!((x == (Sp.lim 1048576 x)) && ((y == (Sp.lim 1048576 y)) && true))) = (Sp.nok (x, y)) from by rfl)))
theorem ixf_nok_own (ps : List (Int × Int)) (hz : ps.length ≤ 9223372036854775807) :
    AC Try.prog 61 1 ([.slice (some ⟨0, 0, none⟩) ps.length 0, .func (.func 37) #[] #[]]) [(0, ⟨(ps.flatMap ptc), 27, true, 2⟩)] (.int .i64 (Sp.ixF Sp.nok ps 0)) [(0, ⟨(ps.flatMap ptc), 27, true, 2⟩)] := by
  refine ac_in Try.func61 (fun w0 W pin => ?_)
  refine aw_p 3 (
    .a 1 1 <| .nil _ _) ?_
  refine aw_sq 6 7 ?_
  refine aw_p 13 (
    .a 3 1 <| .nil _ _) ?_
  refine aw_bl 0 27 ?_
  refine aw_lp 55 ?_
  refine al_w [(0, .slice (some ⟨0, 0, none⟩) ps.length 0), (1, .func (.func 37) #[] #[]), (7, .int .i64 ((ps.length : Nat) : Int)), (8, .int .i64 ((0 : Nat) : Int))] [(0, ⟨(ps.flatMap ptc), 27, true, 2⟩)] ?_ (hc := (by simp [closedB, valsB, valB, List.all_eq_true, List.mem_flatMap, List.mem_range, List.mem_map, i64v, ptc, flat1]; try (intros; simp [valsB, valB, flat1]); try decide))
  refine al_ind (fun i : Nat => (fun (i : Nat) => mkSt 1 [(0, .slice (some ⟨0, 0, none⟩) ps.length 0), (1, .func (.func 37) #[] #[]), (7, .int .i64 ((ps.length : Nat) : Int)), (8, .int .i64 ((i : Nat) : Int))] [(0, ⟨(ps.flatMap ptc), 27, true, 2⟩)]) i) (fun i : Nat => (fun (i : Nat) => (i ≤ ps.length) ∧ (Sp.ixF Sp.nok ps i = Sp.ixF Sp.nok ps 0)) i) (fun i : Nat => (fun (i : Nat) => ps.length - i) i) (fun i hi1 ih1 => ?_) 0 (show (0 ≤ ps.length) ∧ (Sp.ixF Sp.nok ps 0 = Sp.ixF Sp.nok ps 0) from ⟨by omega, by rfl⟩)
  obtain ⟨i, hv1⟩ : ∃ z, z = i := ⟨i, rfl⟩; subst hv1
  have hi1' : (i ≤ ps.length) ∧ (Sp.ixF Sp.nok ps i = Sp.ixF Sp.nok ps 0) := hi1
  obtain ⟨hi, hh⟩ := hi1'
  show AL _ _ _ (mkSt 1 [(0, .slice (some ⟨0, 0, none⟩) ps.length 0), (1, .func (.func 37) #[] #[]), (7, .int .i64 ((ps.length : Nat) : Int)), (8, .int .i64 ((i : Nat) : Int))] [(0, ⟨(ps.flatMap ptc), 27, true, 2⟩)]) _
  refine al_round ?_
  refine aw_p 111 (
    .a 1 1 <| .nil _ _) ?_
  refine aw_sq 222 223 ?_
  refine aw_cd 444 445 (decide (((i : Nat) : Int) < ((ps.length : Nat) : Int))) (fun h1 => ?_) (fun h1 => ?_)
  · have h1p : ((((i : Nat) : Int) < ((ps.length : Nat) : Int))) := by first | (simpa using h1) | (have h1q := h1; simp at h1q; omega) | (have h1q := bx1 h1; simp at h1q; omega)
    have hil : i < ps.length := by omega
    refine aw_sk ?_
    refine then_normal ?_
    refine aw_sq 446 447 ?_
    refine aw_bl 1 893 ?_
    refine aw_p 1787 (
      .a 2 1 <| .nil _ _) ?_
    refine aw_p 3575 (
      .a 3 1 <| .p (does_indexSlice (t := 24) (x := .tmp 12) (y := .tmp 13) (k := 0) (off := 0) (n := ps.length) (c := 0) (z := 2) (kd := .i64) (j := ((i : Nat) : Int)) (by kernel_rfl) (by kernel_rfl) (by kernel_rfl) (by kernel_rfl) (by kernel_rfl) (by omega) (by omega)) <|
      .p (does_load (t := 27) (x := .tmp 14) (k := 0) (off := (0 + (((i : Nat) : Int)).toNat * 2)) (b := ⟨(ps.flatMap ptc), 27, true, 2⟩) (v := .agg #[.int .i64 ((ps.getD i (0, 0)).1), .int .i64 ((ps.getD i (0, 0)).2)]) (by kernel_rfl) (by kernel_rfl) (by kernel_rfl) (ldV_pair (j := i) (by kernel_rfl) (by kernel_rfl) (by omega) (by omega))) <|
      .p (does_c (notok_ok ((ps.getD i (0, 0)).1) ((ps.getD i (0, 0)).2))) <| .nil _ _) ?_
    refine aw_cd 7150 7151 (Sp.nok ((ps.getD i (0, 0)).1, (ps.getD i (0, 0)).2)) (fun h2 => ?_) (fun h2 => ?_)
    · refine aw_p 14301 (
        .a 2 1 <| .nil _ _) ?_
      refine aw_rt ?_
      refine block_ret ?_
      refine then_ret ?_
      refine then_ret ?_
      refine block_ret ?_
      refine then_ret ?_
      exact en_ret [.int .i64 ((i : Nat) : Int)] (show (.int .i64 ((i : Nat) : Int) : Value) = (.int .i64 (Sp.ixF Sp.nok ps 0)) from (congrArg (Value.int .i64) (show ((i : Nat) : Int) = (Sp.ixF Sp.nok ps 0) from by (first | exact (by rw [← hh, Sp.ixF_yes hil (by assumption)]) | exact (by rw [← hh, Sp.ixF_end hge])))))
    · refine aw_sk ?_
      refine block_normal ?_
      refine then_normal ?_
      refine aw_p1 (
        .p (does_i (((i : Nat) : Int) + 1) (wrap_i64 (by omega) (by omega)) .i64) <| .a 1 1 <| .nil _ _) ?_
      refine then_normal ?_
      refine al_w [(0, .slice (some ⟨0, 0, none⟩) ps.length 0), (1, .func (.func 37) #[] #[]), (7, .int .i64 ((ps.length : Nat) : Int)), (8, .int .i64 (((i + 1) : Nat) : Int))] [(0, ⟨(ps.flatMap ptc), 27, true, 2⟩)] ?_ (hc := (by simp [closedB, valsB, valB, List.all_eq_true, List.mem_flatMap, List.mem_range, List.mem_map, i64v, ptc, flat1]; try (intros; simp [valsB, valB, flat1]); try decide))
      exact ih1 (i + 1) (show ((i + 1) ≤ ps.length) ∧ (Sp.ixF Sp.nok ps (i + 1) = Sp.ixF Sp.nok ps 0) from ⟨by omega, by (rw [← hh]; exact Sp.ixF_no hil (by assumption))⟩) (show ps.length - (i + 1) < ps.length - i from by omega)
  · have h1p : ¬ ((((i : Nat) : Int) < ((ps.length : Nat) : Int))) := by first | (simpa using h1) | (have h1q := h1; simp at h1q; omega) | (have h1q := bx2 h1; simp at h1q; omega)
    have hge : ¬ i < ps.length := by omega
    refine aw_ex 0 ?_
    refine then_exit ?_
    refine then_exit ?_
    refine block_exit ?_
    refine then_normal ?_
    refine aw_p 15 (
      .a 1 1 <| .nil _ _) ?_
    refine aw_rt ?_
    exact en_ret [.int .i64 (-1)] (show (.int .i64 (-1) : Value) = (.int .i64 (Sp.ixF Sp.nok ps 0)) from (congrArg (Value.int .i64) (show (-1) = (Sp.ixF Sp.nok ps 0) from by (first | exact (by rw [← hh, Sp.ixF_yes hil (by assumption)]) | exact (by rw [← hh, Sp.ixF_end hge])))))
theorem ixf_nokn_own (ps : List (Int × Int)) (N : Nat) (hN : ps.length = N) (hz : N ≤ 9223372036854775807) : AC Try.prog 61 1 [.slice (some ⟨0, 0, none⟩) N 0, .func (.func 37) #[] #[]] [(0, ⟨(ps.flatMap ptc), 27, true, 2⟩)] (.int .i64 (Sp.ixF Sp.nok ps 0)) [(0, ⟨(ps.flatMap ptc), 27, true, 2⟩)] := by
  subst hN
  exact ixf_nok_own ps hz
end Go.Proofs.Ytomnkdlfmjdckaa.Am

namespace Go.Proofs.Ytomnkdlfmjdckaa.Am
open Go Go.Proofs
set_option maxRecDepth 100000
set_option maxHeartbeats 4000000
set_option linter.unusedVariables false
set_option linter.unusedSimpArgs false
theorem ctf_nok_own (ps : List (Int × Int)) (hz : ps.length ≤ 9223372036854775807) :
    AC Try.prog 36 1 ([.slice (some ⟨0, 0, none⟩) ps.length 0, .func (.func 37) #[] #[]]) [(0, ⟨(ps.flatMap ptc), 27, true, 2⟩)] (.bool (ps.any Sp.nok)) [(0, ⟨(ps.flatMap ptc), 27, true, 2⟩)] := by
  refine ac_in Try.func36 (fun w0 W pin => ?_)
  refine aw_p 3 (
    .a 1 1 <| .nil _ _) ?_
  refine aw_p 7 (
    .a 2 1 <|
    .p (does_callB (x := .func 61) (ars := #[.tmp 5, .tmp 6]) (ats := #[24, 72]) (g := 61) (vs := [.slice (some ⟨0, 0, none⟩) ps.length 0, .func (.func 37) #[] #[]]) (m := 1) (r := 0) (firsts := #[]) (caps := #[]) (args0 := [.slice (some ⟨0, 0, none⟩) ps.length 0, .func (.func 37) #[] #[]]) (pre0 := [(0, ⟨(ps.flatMap ptc), 27, true, 2⟩)]) (post0 := [(0, ⟨(ps.flatMap ptc), 27, true, 2⟩)]) (pre := [(0, ⟨(ps.flatMap ptc), 27, true, 2⟩)]) (post := [(0, ⟨(ps.flatMap ptc), 27, true, 2⟩)]) (v0 := .int .i64 (Sp.ixF Sp.nok ps 0)) (v := .int .i64 (Sp.ixF Sp.nok ps 0)) [0] (by kernel_rfl) (by kernel_rfl) (by kernel_rfl) (by kernel_rfl) (ixf_nokn_own ps ps.length (rfl) (by first | omega | decide)) (.cons (.slice _ _ _ _ _ (by decide)) (.cons (.flatB (by kernel_rfl)) .nil)) ⟨rfl, ⟨rfl, rfl, rfl, (.flats (flats_pair _))⟩, trivial⟩ (by kernel_rfl) (by kernel_rfl) (by kernel_rfl) ⟨rfl, ⟨rfl, rfl, rfl, (.flats (flats_pair _))⟩, trivial⟩ (.flatB (by kernel_rfl))) <|
    .p (does_b (ps.any Sp.nok) (Sp.ixF_any _ _)) <| .a 1 1 <| .nil _ _) ?_
  refine aw_rt ?_
  exact en_ret [.bool (ps.any Sp.nok)] (by kernel_rfl)
theorem apart_own (ps : List (Int × Int)) (hz : ps.length ≤ 9223372036854775807) (k i k2 i2 : Nat) (hk : k < ps.length) (hi : i < ps.length) (hk2 : (k + 1) % ps.length = k2) (hi2 : (i + 1) % ps.length = i2) :
    AC Try.prog 39 1 ([.slice (some ⟨0, 0, none⟩) ps.length 0, .int .i64 ((k : Nat) : Int), .int .i64 ((i : Nat) : Int)]) [(0, ⟨(ps.flatMap ptc), 27, true, 2⟩)] (.bool (Sp.apF ps k k2 i i2)) [(0, ⟨(ps.flatMap ptc), 27, true, 2⟩)] := by
  have hk2l : k2 < ps.length := hk2 ▸ Nat.mod_lt _ (by omega); have hi2l : i2 < ps.length := hi2 ▸ Nat.mod_lt _ (by omega)
  refine ac_in Try.func39 (fun w0 W pin => ?_)
  refine aw_p 3 (
    .a 1 1 <| .nil _ _) ?_
  refine aw_p 7 (
    .a 3 1 <| .nil _ _) ?_
  refine aw_d 15 (
    .a 2 1 <| .p (does_indexSlice (t := 24) (x := .tmp 16) (y := .tmp 17) (k := 0) (off := 0) (n := ps.length) (c := 0) (z := 2) (kd := .i64) (j := ((k : Nat) : Int)) (by kernel_rfl) (by kernel_rfl) (by kernel_rfl) (by kernel_rfl) (by kernel_rfl) (by omega) (by omega)) <|
    .p (does_load (t := 27) (x := .tmp 18) (k := 0) (off := (0 + (((k : Nat) : Int)).toNat * 2)) (b := ⟨(ps.flatMap ptc), 27, true, 2⟩) (v := .agg #[.int .i64 ((ps.getD k (0, 0)).1), .int .i64 ((ps.getD k (0, 0)).2)]) (by kernel_rfl) (by kernel_rfl) (by kernel_rfl) (ldV_pair (j := k) (by kernel_rfl) (by kernel_rfl) (by omega) (by omega))) <|
    .a 2 1 <| .p (does_i (((k : Nat) : Int) + 1) (wrap_i64 (by omega) (by omega)) .i64) <| .a 1 1 <|
    .p (does_int (n' := ((k2 : Nat) : Int)) (does_rem (t := 3) (t2 := 3) (x := .tmp 22) (y := .tmp 23) (k := .i64) (a := (((k : Nat) : Int) + 1)) (b := ((ps.length : Nat) : Int)) (by kernel_rfl) (by kernel_rfl) (by kernel_rfl) (by omega)) ((show (Int.tmod (((k : Nat) : Int) + 1) ((ps.length : Nat) : Int)) = ((k2 : Nat) : Int) from (by rw [← hk2]; exact rfl)))) <|
    .p (does_indexSlice (t := 24) (x := .tmp 20) (y := .tmp 24) (k := 0) (off := 0) (n := ps.length) (c := 0) (z := 2) (kd := .i64) (j := ((k2 : Nat) : Int)) (by kernel_rfl) (by kernel_rfl) (by kernel_rfl) (by kernel_rfl) (by kernel_rfl) (by omega) (by omega)) <|
    .p (does_load (t := 27) (x := .tmp 25) (k := 0) (off := (0 + (((k2 : Nat) : Int)).toNat * 2)) (b := ⟨(ps.flatMap ptc), 27, true, 2⟩) (v := .agg #[.int .i64 ((ps.getD k2 (0, 0)).1), .int .i64 ((ps.getD k2 (0, 0)).2)]) (by kernel_rfl) (by kernel_rfl) (by kernel_rfl) (ldV_pair (j := k2) (by kernel_rfl) (by kernel_rfl) (by omega) (by omega))) <|
    .a 2 1 <| .p (does_indexSlice (t := 24) (x := .tmp 27) (y := .tmp 28) (k := 0) (off := 0) (n := ps.length) (c := 0) (z := 2) (kd := .i64) (j := ((i : Nat) : Int)) (by kernel_rfl) (by kernel_rfl) (by kernel_rfl) (by kernel_rfl) (by kernel_rfl) (by omega) (by omega)) <|
    .p (does_load (t := 27) (x := .tmp 29) (k := 0) (off := (0 + (((i : Nat) : Int)).toNat * 2)) (b := ⟨(ps.flatMap ptc), 27, true, 2⟩) (v := .agg #[.int .i64 ((ps.getD i (0, 0)).1), .int .i64 ((ps.getD i (0, 0)).2)]) (by kernel_rfl) (by kernel_rfl) (by kernel_rfl) (ldV_pair (j := i) (by kernel_rfl) (by kernel_rfl) (by omega) (by omega))) <|
    .a 2 1 <| .p (does_i (((i : Nat) : Int) + 1) (wrap_i64 (by omega) (by omega)) .i64) <| .a 1 1 <|
    .p (does_int (n' := ((i2 : Nat) : Int)) (does_rem (t := 3) (t2 := 3) (x := .tmp 33) (y := .tmp 34) (k := .i64) (a := (((i : Nat) : Int) + 1)) (b := ((ps.length : Nat) : Int)) (by kernel_rfl) (by kernel_rfl) (by kernel_rfl) (by omega)) ((show (Int.tmod (((i : Nat) : Int) + 1) ((ps.length : Nat) : Int)) = ((i2 : Nat) : Int) from (by rw [← hi2]; exact rfl)))) <|
    .p (does_indexSlice (t := 24) (x := .tmp 31) (y := .tmp 35) (k := 0) (off := 0) (n := ps.length) (c := 0) (z := 2) (kd := .i64) (j := ((i2 : Nat) : Int)) (by kernel_rfl) (by kernel_rfl) (by kernel_rfl) (by kernel_rfl) (by kernel_rfl) (by omega) (by omega)) <|
    .p (does_load (t := 27) (x := .tmp 36) (k := 0) (off := (0 + (((i2 : Nat) : Int)).toNat * 2)) (b := ⟨(ps.flatMap ptc), 27, true, 2⟩) (v := .agg #[.int .i64 ((ps.getD i2 (0, 0)).1), .int .i64 ((ps.getD i2 (0, 0)).2)]) (by kernel_rfl) (by kernel_rfl) (by kernel_rfl) (ldV_pair (j := i2) (by kernel_rfl) (by kernel_rfl) (by omega) (by omega))) <|
    .a 8 1 <| .nil _ _) ?_
  refine aw_d 31 (
    .a 1 5 <| .p (does_i (((k : Nat) : Int) + 1) (wrap_i64 (by omega) (by omega)) .i64) <| .a 3 5 <| .p (does_i (((i : Nat) : Int) + 1) (wrap_i64 (by omega) (by omega)) .i64) <| .a 1 5 <|
    .p (does_int (n' := ((i2 : Nat) : Int)) (does_rem (t := 3) (t2 := 3) (x := .tmp 43) (y := .tmp 44) (k := .i64) (a := (((i : Nat) : Int) + 1)) (b := ((ps.length : Nat) : Int)) (by kernel_rfl) (by kernel_rfl) (by kernel_rfl) (by omega)) ((show (Int.tmod (((i : Nat) : Int) + 1) ((ps.length : Nat) : Int)) = ((i2 : Nat) : Int) from (by rw [← hi2]; exact rfl)))) <|
    .a 4 5 <| .nil _ _) ?_
  refine aw_sq 62 63 ?_
  rcases Bool.eq_false_or_eq_true (((((ps.getD k (0, 0)).1) == ((ps.getD k2 (0, 0)).1)) && ((((ps.getD k (0, 0)).2) == ((ps.getD k2 (0, 0)).2)) && true))) with h1 | h1
  · have h1p : ((((ps.getD k (0, 0)).1) = ((ps.getD k2 (0, 0)).1) ∧ ((ps.getD k (0, 0)).2) = ((ps.getD k2 (0, 0)).2))) := by first | (simpa using h1) | (have h1q := h1; simp at h1q; omega) | (have h1q := bx1 h1; simp at h1q; omega)
    refine aw_p 125 (
      .a 2 5 <| .p (does_e true (h1)) <| .a 5 5 <| .nil _ _) ?_
    refine aw_tr 250 ?_
    refine aw_p 501 (
      .a 1 5 <| .nil _ _) ?_
    refine aw_rt ?_
    refine then_ret ?_
    exact en_ret [.bool false] (show (.bool false : Value) = (.bool (Sp.apF ps k k2 i i2)) from (congrArg Value.bool (show false = (Sp.apF ps k k2 i i2) from by (first | exact (Sp.apF_1 (by assumption)).symm | exact (Sp.apF_2 (by assumption) (by assumption)).symm | exact (Sp.apF_3 (by assumption) (by assumption) (by assumption)).symm | exact (Sp.apF_4 (by assumption) (by assumption) (by assumption) (by assumption)).symm | exact (Sp.apF_5 (by assumption) (by assumption) (by assumption) (by assumption)).symm))))
  · have h1p : ¬ ((((ps.getD k (0, 0)).1) = ((ps.getD k2 (0, 0)).1) ∧ ((ps.getD k (0, 0)).2) = ((ps.getD k2 (0, 0)).2))) := by first | (simpa using h1) | (have h1q := h1; simp at h1q; omega) | (have h1q := bx2 h1; simp at h1q; omega)
    refine aw_p 125 (
      .a 2 5 <| .p (does_e false (h1)) <| .a 3 5 <| .p (does_e ((((ps.getD i (0, 0)).1) == ((ps.getD i2 (0, 0)).1)) && ((((ps.getD i (0, 0)).2) == ((ps.getD i2 (0, 0)).2)) && true)) (rfl)) <| .a 1 5 <| .nil _ _) ?_
    refine aw_cd 250 251 ((((ps.getD i (0, 0)).1) == ((ps.getD i2 (0, 0)).1)) && ((((ps.getD i (0, 0)).2) == ((ps.getD i2 (0, 0)).2)) && true)) (fun h2 => ?_) (fun h2 => ?_)
    · have h2p : ((((ps.getD i (0, 0)).1) = ((ps.getD i2 (0, 0)).1) ∧ ((ps.getD i (0, 0)).2) = ((ps.getD i2 (0, 0)).2))) := by first | (simpa using h2) | (have h2q := h2; simp at h2q; omega) | (have h2q := bx1 h2; simp at h2q; omega)
      refine aw_p 501 (
        .a 1 5 <| .nil _ _) ?_
      refine aw_rt ?_
      refine then_ret ?_
      exact en_ret [.bool false] (show (.bool false : Value) = (.bool (Sp.apF ps k k2 i i2)) from (congrArg Value.bool (show false = (Sp.apF ps k k2 i i2) from by (first | exact (Sp.apF_1 (by assumption)).symm | exact (Sp.apF_2 (by assumption) (by assumption)).symm | exact (Sp.apF_3 (by assumption) (by assumption) (by assumption)).symm | exact (Sp.apF_4 (by assumption) (by assumption) (by assumption) (by assumption)).symm | exact (Sp.apF_5 (by assumption) (by assumption) (by assumption) (by assumption)).symm))))
    · have h2p : ¬ ((((ps.getD i (0, 0)).1) = ((ps.getD i2 (0, 0)).1) ∧ ((ps.getD i (0, 0)).2) = ((ps.getD i2 (0, 0)).2))) := by first | (simpa using h2) | (have h2q := h2; simp at h2q; omega) | (have h2q := bx2 h2; simp at h2q; omega)
      refine aw_sk ?_
      refine then_normal ?_
      refine aw_sq 126 127 ?_
      rcases Bool.eq_false_or_eq_true ((((k : Nat) : Int) + 1) == ((i : Nat) : Int)) with h3 | h3
      · have h3p : (((((k : Nat) : Int) + 1) = ((i : Nat) : Int))) := by first | (simpa using h3) | (have h3q := h3; simp at h3q; omega) | (have h3q := bx1 h3; simp at h3q; omega)
        refine aw_p 253 (
          .p (does_b true (h3)) <| .a 3 5 <| .nil _ _) ?_
        refine aw_tr 506 ?_
        refine aw_p 1013 (
          .a 4 5 <| .p (does_c (segmeet_any ((ps.getD k (0, 0)).1) ((ps.getD k (0, 0)).2) ((ps.getD k2 (0, 0)).1) ((ps.getD k2 (0, 0)).2) ((ps.getD i (0, 0)).1) ((ps.getD i (0, 0)).2) ((ps.getD i2 (0, 0)).1) ((ps.getD i2 (0, 0)).2))) <| .a 2 5 <| .nil _ _) ?_
        refine aw_rt ?_
        refine then_ret ?_
        exact en_ret [.bool ((Sp.meetN (Sp.lim 1048576 ((ps.getD k (0, 0)).1)) (Sp.lim 1048576 ((ps.getD k (0, 0)).2)) (Sp.lim 1048576 ((ps.getD k2 (0, 0)).1)) (Sp.lim 1048576 ((ps.getD k2 (0, 0)).2)) (Sp.lim 1048576 ((ps.getD i (0, 0)).1)) (Sp.lim 1048576 ((ps.getD i (0, 0)).2)) (Sp.lim 1048576 ((ps.getD i2 (0, 0)).1)) (Sp.lim 1048576 ((ps.getD i2 (0, 0)).2))) == 1)] (show (.bool ((Sp.meetN (Sp.lim 1048576 ((ps.getD k (0, 0)).1)) (Sp.lim 1048576 ((ps.getD k (0, 0)).2)) (Sp.lim 1048576 ((ps.getD k2 (0, 0)).1)) (Sp.lim 1048576 ((ps.getD k2 (0, 0)).2)) (Sp.lim 1048576 ((ps.getD i (0, 0)).1)) (Sp.lim 1048576 ((ps.getD i (0, 0)).2)) (Sp.lim 1048576 ((ps.getD i2 (0, 0)).1)) (Sp.lim 1048576 ((ps.getD i2 (0, 0)).2))) == 1) : Value) = (.bool (Sp.apF ps k k2 i i2)) from (congrArg Value.bool (show ((Sp.meetN (Sp.lim 1048576 ((ps.getD k (0, 0)).1)) (Sp.lim 1048576 ((ps.getD k (0, 0)).2)) (Sp.lim 1048576 ((ps.getD k2 (0, 0)).1)) (Sp.lim 1048576 ((ps.getD k2 (0, 0)).2)) (Sp.lim 1048576 ((ps.getD i (0, 0)).1)) (Sp.lim 1048576 ((ps.getD i (0, 0)).2)) (Sp.lim 1048576 ((ps.getD i2 (0, 0)).1)) (Sp.lim 1048576 ((ps.getD i2 (0, 0)).2))) == 1) = (Sp.apF ps k k2 i i2) from by (first | exact (Sp.apF_1 (by assumption)).symm | exact (Sp.apF_2 (by assumption) (by assumption)).symm | exact (Sp.apF_3 (by assumption) (by assumption) (by assumption)).symm | exact (Sp.apF_4 (by assumption) (by assumption) (by assumption) (by assumption)).symm | exact (Sp.apF_5 (by assumption) (by assumption) (by assumption) (by assumption)).symm))))
      · have h3p : ¬ (((((k : Nat) : Int) + 1) = ((i : Nat) : Int))) := by first | (simpa using h3) | (have h3q := h3; simp at h3q; omega) | (have h3q := bx2 h3; simp at h3q; omega)
        refine aw_p 253 (
          .p (does_b false (h3)) <| .a 3 5 <| .nil _ _) ?_
        refine aw_cd 506 507 (((i2 : Nat) : Int) == ((k : Nat) : Int)) (fun h4 => ?_) (fun h4 => ?_)
        · have h4p : ((((i2 : Nat) : Int) = ((k : Nat) : Int))) := by first | (simpa using h4) | (have h4q := h4; simp at h4q; omega) | (have h4q := bx1 h4; simp at h4q; omega)
          refine aw_p 1013 (
            .a 4 5 <| .p (does_c (segmeet_any ((ps.getD k (0, 0)).1) ((ps.getD k (0, 0)).2) ((ps.getD k2 (0, 0)).1) ((ps.getD k2 (0, 0)).2) ((ps.getD i (0, 0)).1) ((ps.getD i (0, 0)).2) ((ps.getD i2 (0, 0)).1) ((ps.getD i2 (0, 0)).2))) <| .a 2 5 <| .nil _ _) ?_
          refine aw_rt ?_
          refine then_ret ?_
          exact en_ret [.bool ((Sp.meetN (Sp.lim 1048576 ((ps.getD k (0, 0)).1)) (Sp.lim 1048576 ((ps.getD k (0, 0)).2)) (Sp.lim 1048576 ((ps.getD k2 (0, 0)).1)) (Sp.lim 1048576 ((ps.getD k2 (0, 0)).2)) (Sp.lim 1048576 ((ps.getD i (0, 0)).1)) (Sp.lim 1048576 ((ps.getD i (0, 0)).2)) (Sp.lim 1048576 ((ps.getD i2 (0, 0)).1)) (Sp.lim 1048576 ((ps.getD i2 (0, 0)).2))) == 1)] (show (.bool ((Sp.meetN (Sp.lim 1048576 ((ps.getD k (0, 0)).1)) (Sp.lim 1048576 ((ps.getD k (0, 0)).2)) (Sp.lim 1048576 ((ps.getD k2 (0, 0)).1)) (Sp.lim 1048576 ((ps.getD k2 (0, 0)).2)) (Sp.lim 1048576 ((ps.getD i (0, 0)).1)) (Sp.lim 1048576 ((ps.getD i (0, 0)).2)) (Sp.lim 1048576 ((ps.getD i2 (0, 0)).1)) (Sp.lim 1048576 ((ps.getD i2 (0, 0)).2))) == 1) : Value) = (.bool (Sp.apF ps k k2 i i2)) from (congrArg Value.bool (show ((Sp.meetN (Sp.lim 1048576 ((ps.getD k (0, 0)).1)) (Sp.lim 1048576 ((ps.getD k (0, 0)).2)) (Sp.lim 1048576 ((ps.getD k2 (0, 0)).1)) (Sp.lim 1048576 ((ps.getD k2 (0, 0)).2)) (Sp.lim 1048576 ((ps.getD i (0, 0)).1)) (Sp.lim 1048576 ((ps.getD i (0, 0)).2)) (Sp.lim 1048576 ((ps.getD i2 (0, 0)).1)) (Sp.lim 1048576 ((ps.getD i2 (0, 0)).2))) == 1) = (Sp.apF ps k k2 i i2) from by (first | exact (Sp.apF_1 (by assumption)).symm | exact (Sp.apF_2 (by assumption) (by assumption)).symm | exact (Sp.apF_3 (by assumption) (by assumption) (by assumption)).symm | exact (Sp.apF_4 (by assumption) (by assumption) (by assumption) (by assumption)).symm | exact (Sp.apF_5 (by assumption) (by assumption) (by assumption) (by assumption)).symm))))
        · have h4p : ¬ ((((i2 : Nat) : Int) = ((k : Nat) : Int))) := by first | (simpa using h4) | (have h4q := h4; simp at h4q; omega) | (have h4q := bx2 h4; simp at h4q; omega)
          refine aw_sk ?_
          refine then_normal ?_
          refine aw_p 255 (
            .a 4 5 <| .p (does_c (segmeet_any ((ps.getD k (0, 0)).1) ((ps.getD k (0, 0)).2) ((ps.getD k2 (0, 0)).1) ((ps.getD k2 (0, 0)).2) ((ps.getD i (0, 0)).1) ((ps.getD i (0, 0)).2) ((ps.getD i2 (0, 0)).1) ((ps.getD i2 (0, 0)).2))) <| .a 2 5 <| .nil _ _) ?_
          refine aw_rt ?_
          exact en_ret [.bool ((Sp.meetN (Sp.lim 1048576 ((ps.getD k (0, 0)).1)) (Sp.lim 1048576 ((ps.getD k (0, 0)).2)) (Sp.lim 1048576 ((ps.getD k2 (0, 0)).1)) (Sp.lim 1048576 ((ps.getD k2 (0, 0)).2)) (Sp.lim 1048576 ((ps.getD i (0, 0)).1)) (Sp.lim 1048576 ((ps.getD i (0, 0)).2)) (Sp.lim 1048576 ((ps.getD i2 (0, 0)).1)) (Sp.lim 1048576 ((ps.getD i2 (0, 0)).2))) == 0)] (show (.bool ((Sp.meetN (Sp.lim 1048576 ((ps.getD k (0, 0)).1)) (Sp.lim 1048576 ((ps.getD k (0, 0)).2)) (Sp.lim 1048576 ((ps.getD k2 (0, 0)).1)) (Sp.lim 1048576 ((ps.getD k2 (0, 0)).2)) (Sp.lim 1048576 ((ps.getD i (0, 0)).1)) (Sp.lim 1048576 ((ps.getD i (0, 0)).2)) (Sp.lim 1048576 ((ps.getD i2 (0, 0)).1)) (Sp.lim 1048576 ((ps.getD i2 (0, 0)).2))) == 0) : Value) = (.bool (Sp.apF ps k k2 i i2)) from (congrArg Value.bool (show ((Sp.meetN (Sp.lim 1048576 ((ps.getD k (0, 0)).1)) (Sp.lim 1048576 ((ps.getD k (0, 0)).2)) (Sp.lim 1048576 ((ps.getD k2 (0, 0)).1)) (Sp.lim 1048576 ((ps.getD k2 (0, 0)).2)) (Sp.lim 1048576 ((ps.getD i (0, 0)).1)) (Sp.lim 1048576 ((ps.getD i (0, 0)).2)) (Sp.lim 1048576 ((ps.getD i2 (0, 0)).1)) (Sp.lim 1048576 ((ps.getD i2 (0, 0)).2))) == 0) = (Sp.apF ps k k2 i i2) from by (first | exact (Sp.apF_1 (by assumption)).symm | exact (Sp.apF_2 (by assumption) (by assumption)).symm | exact (Sp.apF_3 (by assumption) (by assumption) (by assumption)).symm | exact (Sp.apF_4 (by assumption) (by assumption) (by assumption) (by assumption)).symm | exact (Sp.apF_5 (by assumption) (by assumption) (by assumption) (by assumption)).symm))))
theorem ctf_nokn_own (ps : List (Int × Int)) (N : Nat) (hN : ps.length = N) (hz : N ≤ 9223372036854775807) : AC Try.prog 36 1 [.slice (some ⟨0, 0, none⟩) N 0, .func (.func 37) #[] #[]] [(0, ⟨(ps.flatMap ptc), 27, true, 2⟩)] (.bool (ps.any Sp.nok)) [(0, ⟨(ps.flatMap ptc), 27, true, 2⟩)] := by
  subst hN
  exact ctf_nok_own ps hz
end Go.Proofs.Ytomnkdlfmjdckaa.Am
