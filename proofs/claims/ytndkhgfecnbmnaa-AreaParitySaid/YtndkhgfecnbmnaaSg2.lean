/-
  The walks of what two segments share.
-/
import Derived.Test.YtndkhgfecnbmnaaProg
import Derived.Test.YtndkhgfecnbmnaaAm16
import Derived.Test.YtndkhgfecnbmnaaSg1
namespace Go.Proofs.Ytndkhgfecnbmnaa.Am
open Go Go.Proofs
set_option maxRecDepth 100000
set_option maxHeartbeats 4000000
set_option linter.unusedVariables false
set_option linter.unusedSimpArgs false

theorem shared0000 (ax ay bx b_y cx cy dx dy : Int) (axl : -1048576 ≤ ax) (axu : ax ≤ 1048576) (ayl : -1048576 ≤ ay) (ayu : ay ≤ 1048576) (bxl : -1048576 ≤ bx) (bxu : bx ≤ 1048576) (b_yl : -1048576 ≤ b_y) (b_yu : b_y ≤ 1048576) (cxl : -1048576 ≤ cx) (cxu : cx ≤ 1048576) (cyl : -1048576 ≤ cy) (cyu : cy ≤ 1048576) (dxl : -1048576 ≤ dx) (dxu : dx ≤ 1048576) (dyl : -1048576 ≤ dy) (dyu : dy ≤ 1048576) (g0 : Sp.addb [] ax ay cx cy dx dy = false) (g1 : Sp.addb [] bx b_y cx cy dx dy = false) (g2 : Sp.addb [] cx cy ax ay bx b_y = false) (g3 : Sp.addb [] dx dy ax ay bx b_y = false) :
    AC Try.prog 110 0 ([.agg #[.int .i64 ax, .int .i64 ay], .agg #[.int .i64 bx, .int .i64 b_y], .agg #[.int .i64 cx, .int .i64 cy], .agg #[.int .i64 dx, .int .i64 dy]]) [] (.slice none 0 0) [] := by
  refine ac_in Try.func110 (fun w0 W pin => ?_)
  refine aw_p 3 (
    .a 5 1 <| .nil _ _) ?_
  refine aw_p 7 (
    .a 1 5 <| .nil _ _) ?_
  refine aw_p 15 (
    .a 2 6 <| .nil _ _) ?_
  refine aw_p 31 (
    .a 4 6 <| .p (does_k [5] (shadd0S ax ay cx cy dx dy (by omega) (by omega) (by omega) (by omega) (by omega) (by omega) (by omega) (by omega) (by omega) (by omega) (by omega) (by omega) g0)) <| .nil _ _) ?_
  refine aw_p 63 (
    .a 4 6 <| .p (does_k [5] (shadd0S bx b_y cx cy dx dy (by omega) (by omega) (by omega) (by omega) (by omega) (by omega) (by omega) (by omega) (by omega) (by omega) (by omega) (by omega) g1)) <| .nil _ _) ?_
  refine aw_p 127 (
    .a 4 6 <| .p (does_k [5] (shadd0S cx cy ax ay bx b_y (by omega) (by omega) (by omega) (by omega) (by omega) (by omega) (by omega) (by omega) (by omega) (by omega) (by omega) (by omega) g2)) <| .nil _ _) ?_
  refine aw_p 255 (
    .a 4 6 <| .p (does_k [5] (shadd0S dx dy ax ay bx b_y (by omega) (by omega) (by omega) (by omega) (by omega) (by omega) (by omega) (by omega) (by omega) (by omega) (by omega) (by omega) g3)) <| .nil _ _) ?_
  refine aw_p 511 (
    .a 2 6 <| .nil _ _) ?_
  refine aw_rt ?_
  exact en_ret [.slice none 0 0] (by kernel_rfl)

theorem shared0001 (ax ay bx b_y cx cy dx dy : Int) (axl : -1048576 ≤ ax) (axu : ax ≤ 1048576) (ayl : -1048576 ≤ ay) (ayu : ay ≤ 1048576) (bxl : -1048576 ≤ bx) (bxu : bx ≤ 1048576) (b_yl : -1048576 ≤ b_y) (b_yu : b_y ≤ 1048576) (cxl : -1048576 ≤ cx) (cxu : cx ≤ 1048576) (cyl : -1048576 ≤ cy) (cyu : cy ≤ 1048576) (dxl : -1048576 ≤ dx) (dxu : dx ≤ 1048576) (dyl : -1048576 ≤ dy) (dyu : dy ≤ 1048576) (g0 : Sp.addb [] ax ay cx cy dx dy = false) (g1 : Sp.addb [] bx b_y cx cy dx dy = false) (g2 : Sp.addb [] cx cy ax ay bx b_y = false) (g3 : Sp.addb [] dx dy ax ay bx b_y = true) :
    AC Try.prog 110 0 ([.agg #[.int .i64 ax, .int .i64 ay], .agg #[.int .i64 bx, .int .i64 b_y], .agg #[.int .i64 cx, .int .i64 cy], .agg #[.int .i64 dx, .int .i64 dy]]) [] (.slice (some ⟨0, 0, none⟩) 1 0) [(0, ⟨[.int .i64 dx, .int .i64 dy], 28, true, 2⟩)] := by
  refine ac_in Try.func110 (fun w0 W pin => ?_)
  refine aw_p 3 (
    .a 5 1 <| .nil _ _) ?_
  refine aw_p 7 (
    .a 1 5 <| .nil _ _) ?_
  refine aw_p 15 (
    .a 2 6 <| .nil _ _) ?_
  refine aw_p 31 (
    .a 4 6 <| .p (does_k [5] (shadd0S ax ay cx cy dx dy (by omega) (by omega) (by omega) (by omega) (by omega) (by omega) (by omega) (by omega) (by omega) (by omega) (by omega) (by omega) g0)) <| .nil _ _) ?_
  refine aw_p 63 (
    .a 4 6 <| .p (does_k [5] (shadd0S bx b_y cx cy dx dy (by omega) (by omega) (by omega) (by omega) (by omega) (by omega) (by omega) (by omega) (by omega) (by omega) (by omega) (by omega) g1)) <| .nil _ _) ?_
  refine aw_p 127 (
    .a 4 6 <| .p (does_k [5] (shadd0S cx cy ax ay bx b_y (by omega) (by omega) (by omega) (by omega) (by omega) (by omega) (by omega) (by omega) (by omega) (by omega) (by omega) (by omega) g2)) <| .nil _ _) ?_
  refine aw_p 255 (
    .a 4 6 <| .p (does_k [5, 0] (shadd0A dx dy ax ay bx b_y (by omega) (by omega) (by omega) (by omega) (by omega) (by omega) (by omega) (by omega) (by omega) (by omega) (by omega) (by omega) g3)) <| .nil _ _) ?_
  refine aw_p 511 (
    .a 2 6 <| .nil _ _) ?_
  refine aw_rt ?_
  exact en_ret [.slice (some ⟨0, 0, none⟩) 1 0] (by kernel_rfl)

theorem shared0010 (ax ay bx b_y cx cy dx dy : Int) (axl : -1048576 ≤ ax) (axu : ax ≤ 1048576) (ayl : -1048576 ≤ ay) (ayu : ay ≤ 1048576) (bxl : -1048576 ≤ bx) (bxu : bx ≤ 1048576) (b_yl : -1048576 ≤ b_y) (b_yu : b_y ≤ 1048576) (cxl : -1048576 ≤ cx) (cxu : cx ≤ 1048576) (cyl : -1048576 ≤ cy) (cyu : cy ≤ 1048576) (dxl : -1048576 ≤ dx) (dxu : dx ≤ 1048576) (dyl : -1048576 ≤ dy) (dyu : dy ≤ 1048576) (g0 : Sp.addb [] ax ay cx cy dx dy = false) (g1 : Sp.addb [] bx b_y cx cy dx dy = false) (g2 : Sp.addb [] cx cy ax ay bx b_y = true) (g3 : Sp.addb [(cx, cy)] dx dy ax ay bx b_y = false) :
    AC Try.prog 110 0 ([.agg #[.int .i64 ax, .int .i64 ay], .agg #[.int .i64 bx, .int .i64 b_y], .agg #[.int .i64 cx, .int .i64 cy], .agg #[.int .i64 dx, .int .i64 dy]]) [] (.slice (some ⟨0, 0, none⟩) 1 0) [(0, ⟨[.int .i64 cx, .int .i64 cy], 28, true, 2⟩)] := by
  refine ac_in Try.func110 (fun w0 W pin => ?_)
  refine aw_p 3 (
    .a 5 1 <| .nil _ _) ?_
  refine aw_p 7 (
    .a 1 5 <| .nil _ _) ?_
  refine aw_p 15 (
    .a 2 6 <| .nil _ _) ?_
  refine aw_p 31 (
    .a 4 6 <| .p (does_k [5] (shadd0S ax ay cx cy dx dy (by omega) (by omega) (by omega) (by omega) (by omega) (by omega) (by omega) (by omega) (by omega) (by omega) (by omega) (by omega) g0)) <| .nil _ _) ?_
  refine aw_p 63 (
    .a 4 6 <| .p (does_k [5] (shadd0S bx b_y cx cy dx dy (by omega) (by omega) (by omega) (by omega) (by omega) (by omega) (by omega) (by omega) (by omega) (by omega) (by omega) (by omega) g1)) <| .nil _ _) ?_
  refine aw_p 127 (
    .a 4 6 <| .p (does_k [5, 0] (shadd0A cx cy ax ay bx b_y (by omega) (by omega) (by omega) (by omega) (by omega) (by omega) (by omega) (by omega) (by omega) (by omega) (by omega) (by omega) g2)) <| .nil _ _) ?_
  refine aw_p 255 (
    .a 4 6 <| .p (does_k [5, 0] (shadd1S cx cy dx dy ax ay bx b_y (by omega) (by omega) (by omega) (by omega) (by omega) (by omega) (by omega) (by omega) (by omega) (by omega) (by omega) (by omega) g3)) <| .nil _ _) ?_
  refine aw_p 511 (
    .a 2 6 <| .nil _ _) ?_
  refine aw_rt ?_
  exact en_ret [.slice (some ⟨0, 0, none⟩) 1 0] (by kernel_rfl)

theorem shared0011 (ax ay bx b_y cx cy dx dy : Int) (axl : -1048576 ≤ ax) (axu : ax ≤ 1048576) (ayl : -1048576 ≤ ay) (ayu : ay ≤ 1048576) (bxl : -1048576 ≤ bx) (bxu : bx ≤ 1048576) (b_yl : -1048576 ≤ b_y) (b_yu : b_y ≤ 1048576) (cxl : -1048576 ≤ cx) (cxu : cx ≤ 1048576) (cyl : -1048576 ≤ cy) (cyu : cy ≤ 1048576) (dxl : -1048576 ≤ dx) (dxu : dx ≤ 1048576) (dyl : -1048576 ≤ dy) (dyu : dy ≤ 1048576) (g0 : Sp.addb [] ax ay cx cy dx dy = false) (g1 : Sp.addb [] bx b_y cx cy dx dy = false) (g2 : Sp.addb [] cx cy ax ay bx b_y = true) (g3 : Sp.addb [(cx, cy)] dx dy ax ay bx b_y = true) :
    AC Try.prog 110 0 ([.agg #[.int .i64 ax, .int .i64 ay], .agg #[.int .i64 bx, .int .i64 b_y], .agg #[.int .i64 cx, .int .i64 cy], .agg #[.int .i64 dx, .int .i64 dy]]) [] (.slice (some ⟨0, 0, none⟩) 2 0) [(0, ⟨[.int .i64 cx, .int .i64 cy, .int .i64 dx, .int .i64 dy], 28, true, 2⟩)] := by
  refine ac_in Try.func110 (fun w0 W pin => ?_)
  refine aw_p 3 (
    .a 5 1 <| .nil _ _) ?_
  refine aw_p 7 (
    .a 1 5 <| .nil _ _) ?_
  refine aw_p 15 (
    .a 2 6 <| .nil _ _) ?_
  refine aw_p 31 (
    .a 4 6 <| .p (does_k [5] (shadd0S ax ay cx cy dx dy (by omega) (by omega) (by omega) (by omega) (by omega) (by omega) (by omega) (by omega) (by omega) (by omega) (by omega) (by omega) g0)) <| .nil _ _) ?_
  refine aw_p 63 (
    .a 4 6 <| .p (does_k [5] (shadd0S bx b_y cx cy dx dy (by omega) (by omega) (by omega) (by omega) (by omega) (by omega) (by omega) (by omega) (by omega) (by omega) (by omega) (by omega) g1)) <| .nil _ _) ?_
  refine aw_p 127 (
    .a 4 6 <| .p (does_k [5, 6] (shadd0A cx cy ax ay bx b_y (by omega) (by omega) (by omega) (by omega) (by omega) (by omega) (by omega) (by omega) (by omega) (by omega) (by omega) (by omega) g2)) <| .nil _ _) ?_
  refine aw_p 255 (
    .a 4 7 <| .p (does_k [5, 6, 0] (shadd1A cx cy dx dy ax ay bx b_y (by omega) (by omega) (by omega) (by omega) (by omega) (by omega) (by omega) (by omega) (by omega) (by omega) (by omega) (by omega) g3)) <| .nil _ _) ?_
  refine aw_p 511 (
    .a 2 7 <| .nil _ _) ?_
  refine aw_rt ?_
  exact en_ret [.slice (some ⟨0, 0, none⟩) 2 0] (by kernel_rfl)

theorem shared0100 (ax ay bx b_y cx cy dx dy : Int) (axl : -1048576 ≤ ax) (axu : ax ≤ 1048576) (ayl : -1048576 ≤ ay) (ayu : ay ≤ 1048576) (bxl : -1048576 ≤ bx) (bxu : bx ≤ 1048576) (b_yl : -1048576 ≤ b_y) (b_yu : b_y ≤ 1048576) (cxl : -1048576 ≤ cx) (cxu : cx ≤ 1048576) (cyl : -1048576 ≤ cy) (cyu : cy ≤ 1048576) (dxl : -1048576 ≤ dx) (dxu : dx ≤ 1048576) (dyl : -1048576 ≤ dy) (dyu : dy ≤ 1048576) (g0 : Sp.addb [] ax ay cx cy dx dy = false) (g1 : Sp.addb [] bx b_y cx cy dx dy = true) (g2 : Sp.addb [(bx, b_y)] cx cy ax ay bx b_y = false) (g3 : Sp.addb [(bx, b_y)] dx dy ax ay bx b_y = false) :
    AC Try.prog 110 0 ([.agg #[.int .i64 ax, .int .i64 ay], .agg #[.int .i64 bx, .int .i64 b_y], .agg #[.int .i64 cx, .int .i64 cy], .agg #[.int .i64 dx, .int .i64 dy]]) [] (.slice (some ⟨0, 0, none⟩) 1 0) [(0, ⟨[.int .i64 bx, .int .i64 b_y], 28, true, 2⟩)] := by
  refine ac_in Try.func110 (fun w0 W pin => ?_)
  refine aw_p 3 (
    .a 5 1 <| .nil _ _) ?_
  refine aw_p 7 (
    .a 1 5 <| .nil _ _) ?_
  refine aw_p 15 (
    .a 2 6 <| .nil _ _) ?_
  refine aw_p 31 (
    .a 4 6 <| .p (does_k [5] (shadd0S ax ay cx cy dx dy (by omega) (by omega) (by omega) (by omega) (by omega) (by omega) (by omega) (by omega) (by omega) (by omega) (by omega) (by omega) g0)) <| .nil _ _) ?_
  refine aw_p 63 (
    .a 4 6 <| .p (does_k [5, 0] (shadd0A bx b_y cx cy dx dy (by omega) (by omega) (by omega) (by omega) (by omega) (by omega) (by omega) (by omega) (by omega) (by omega) (by omega) (by omega) g1)) <| .nil _ _) ?_
  refine aw_p 127 (
    .a 4 6 <| .p (does_k [5, 0] (shadd1S bx b_y cx cy ax ay bx b_y (by omega) (by omega) (by omega) (by omega) (by omega) (by omega) (by omega) (by omega) (by omega) (by omega) (by omega) (by omega) g2)) <| .nil _ _) ?_
  refine aw_p 255 (
    .a 4 6 <| .p (does_k [5, 0] (shadd1S bx b_y dx dy ax ay bx b_y (by omega) (by omega) (by omega) (by omega) (by omega) (by omega) (by omega) (by omega) (by omega) (by omega) (by omega) (by omega) g3)) <| .nil _ _) ?_
  refine aw_p 511 (
    .a 2 6 <| .nil _ _) ?_
  refine aw_rt ?_
  exact en_ret [.slice (some ⟨0, 0, none⟩) 1 0] (by kernel_rfl)

theorem shared0101 (ax ay bx b_y cx cy dx dy : Int) (axl : -1048576 ≤ ax) (axu : ax ≤ 1048576) (ayl : -1048576 ≤ ay) (ayu : ay ≤ 1048576) (bxl : -1048576 ≤ bx) (bxu : bx ≤ 1048576) (b_yl : -1048576 ≤ b_y) (b_yu : b_y ≤ 1048576) (cxl : -1048576 ≤ cx) (cxu : cx ≤ 1048576) (cyl : -1048576 ≤ cy) (cyu : cy ≤ 1048576) (dxl : -1048576 ≤ dx) (dxu : dx ≤ 1048576) (dyl : -1048576 ≤ dy) (dyu : dy ≤ 1048576) (g0 : Sp.addb [] ax ay cx cy dx dy = false) (g1 : Sp.addb [] bx b_y cx cy dx dy = true) (g2 : Sp.addb [(bx, b_y)] cx cy ax ay bx b_y = false) (g3 : Sp.addb [(bx, b_y)] dx dy ax ay bx b_y = true) :
    AC Try.prog 110 0 ([.agg #[.int .i64 ax, .int .i64 ay], .agg #[.int .i64 bx, .int .i64 b_y], .agg #[.int .i64 cx, .int .i64 cy], .agg #[.int .i64 dx, .int .i64 dy]]) [] (.slice (some ⟨0, 0, none⟩) 2 0) [(0, ⟨[.int .i64 bx, .int .i64 b_y, .int .i64 dx, .int .i64 dy], 28, true, 2⟩)] := by
  refine ac_in Try.func110 (fun w0 W pin => ?_)
  refine aw_p 3 (
    .a 5 1 <| .nil _ _) ?_
  refine aw_p 7 (
    .a 1 5 <| .nil _ _) ?_
  refine aw_p 15 (
    .a 2 6 <| .nil _ _) ?_
  refine aw_p 31 (
    .a 4 6 <| .p (does_k [5] (shadd0S ax ay cx cy dx dy (by omega) (by omega) (by omega) (by omega) (by omega) (by omega) (by omega) (by omega) (by omega) (by omega) (by omega) (by omega) g0)) <| .nil _ _) ?_
  refine aw_p 63 (
    .a 4 6 <| .p (does_k [5, 6] (shadd0A bx b_y cx cy dx dy (by omega) (by omega) (by omega) (by omega) (by omega) (by omega) (by omega) (by omega) (by omega) (by omega) (by omega) (by omega) g1)) <| .nil _ _) ?_
  refine aw_p 127 (
    .a 4 7 <| .p (does_k [5, 6] (shadd1S bx b_y cx cy ax ay bx b_y (by omega) (by omega) (by omega) (by omega) (by omega) (by omega) (by omega) (by omega) (by omega) (by omega) (by omega) (by omega) g2)) <| .nil _ _) ?_
  refine aw_p 255 (
    .a 4 7 <| .p (does_k [5, 6, 0] (shadd1A bx b_y dx dy ax ay bx b_y (by omega) (by omega) (by omega) (by omega) (by omega) (by omega) (by omega) (by omega) (by omega) (by omega) (by omega) (by omega) g3)) <| .nil _ _) ?_
  refine aw_p 511 (
    .a 2 7 <| .nil _ _) ?_
  refine aw_rt ?_
  exact en_ret [.slice (some ⟨0, 0, none⟩) 2 0] (by kernel_rfl)

theorem shared0110 (ax ay bx b_y cx cy dx dy : Int) (axl : -1048576 ≤ ax) (axu : ax ≤ 1048576) (ayl : -1048576 ≤ ay) (ayu : ay ≤ 1048576) (bxl : -1048576 ≤ bx) (bxu : bx ≤ 1048576) (b_yl : -1048576 ≤ b_y) (b_yu : b_y ≤ 1048576) (cxl : -1048576 ≤ cx) (cxu : cx ≤ 1048576) (cyl : -1048576 ≤ cy) (cyu : cy ≤ 1048576) (dxl : -1048576 ≤ dx) (dxu : dx ≤ 1048576) (dyl : -1048576 ≤ dy) (dyu : dy ≤ 1048576) (g0 : Sp.addb [] ax ay cx cy dx dy = false) (g1 : Sp.addb [] bx b_y cx cy dx dy = true) (g2 : Sp.addb [(bx, b_y)] cx cy ax ay bx b_y = true) (g3 : Sp.addb [(bx, b_y), (cx, cy)] dx dy ax ay bx b_y = false) :
    AC Try.prog 110 0 ([.agg #[.int .i64 ax, .int .i64 ay], .agg #[.int .i64 bx, .int .i64 b_y], .agg #[.int .i64 cx, .int .i64 cy], .agg #[.int .i64 dx, .int .i64 dy]]) [] (.slice (some ⟨0, 0, none⟩) 2 0) [(0, ⟨[.int .i64 bx, .int .i64 b_y, .int .i64 cx, .int .i64 cy], 28, true, 2⟩)] := by
  refine ac_in Try.func110 (fun w0 W pin => ?_)
  refine aw_p 3 (
    .a 5 1 <| .nil _ _) ?_
  refine aw_p 7 (
    .a 1 5 <| .nil _ _) ?_
  refine aw_p 15 (
    .a 2 6 <| .nil _ _) ?_
  refine aw_p 31 (
    .a 4 6 <| .p (does_k [5] (shadd0S ax ay cx cy dx dy (by omega) (by omega) (by omega) (by omega) (by omega) (by omega) (by omega) (by omega) (by omega) (by omega) (by omega) (by omega) g0)) <| .nil _ _) ?_
  refine aw_p 63 (
    .a 4 6 <| .p (does_k [5, 6] (shadd0A bx b_y cx cy dx dy (by omega) (by omega) (by omega) (by omega) (by omega) (by omega) (by omega) (by omega) (by omega) (by omega) (by omega) (by omega) g1)) <| .nil _ _) ?_
  refine aw_p 127 (
    .a 4 7 <| .p (does_k [5, 6, 0] (shadd1A bx b_y cx cy ax ay bx b_y (by omega) (by omega) (by omega) (by omega) (by omega) (by omega) (by omega) (by omega) (by omega) (by omega) (by omega) (by omega) g2)) <| .nil _ _) ?_
  refine aw_p 255 (
    .a 4 7 <| .p (does_k [5, 0] (shadd2S bx b_y cx cy dx dy ax ay bx b_y (by omega) (by omega) (by omega) (by omega) (by omega) (by omega) (by omega) (by omega) (by omega) (by omega) (by omega) (by omega) g3)) <| .nil _ _) ?_
  refine aw_p 511 (
    .a 2 7 <| .nil _ _) ?_
  refine aw_rt ?_
  exact en_ret [.slice (some ⟨0, 0, none⟩) 2 0] (by kernel_rfl)

theorem shared0111 (ax ay bx b_y cx cy dx dy : Int) (axl : -1048576 ≤ ax) (axu : ax ≤ 1048576) (ayl : -1048576 ≤ ay) (ayu : ay ≤ 1048576) (bxl : -1048576 ≤ bx) (bxu : bx ≤ 1048576) (b_yl : -1048576 ≤ b_y) (b_yu : b_y ≤ 1048576) (cxl : -1048576 ≤ cx) (cxu : cx ≤ 1048576) (cyl : -1048576 ≤ cy) (cyu : cy ≤ 1048576) (dxl : -1048576 ≤ dx) (dxu : dx ≤ 1048576) (dyl : -1048576 ≤ dy) (dyu : dy ≤ 1048576) (g0 : Sp.addb [] ax ay cx cy dx dy = false) (g1 : Sp.addb [] bx b_y cx cy dx dy = true) (g2 : Sp.addb [(bx, b_y)] cx cy ax ay bx b_y = true) (g3 : Sp.addb [(bx, b_y), (cx, cy)] dx dy ax ay bx b_y = true) :
    AC Try.prog 110 0 ([.agg #[.int .i64 ax, .int .i64 ay], .agg #[.int .i64 bx, .int .i64 b_y], .agg #[.int .i64 cx, .int .i64 cy], .agg #[.int .i64 dx, .int .i64 dy]]) [] (.slice (some ⟨0, 0, none⟩) 3 0) [(0, ⟨[.int .i64 bx, .int .i64 b_y, .int .i64 cx, .int .i64 cy, .int .i64 dx, .int .i64 dy], 28, true, 2⟩)] := by
  refine ac_in Try.func110 (fun w0 W pin => ?_)
  refine aw_p 3 (
    .a 5 1 <| .nil _ _) ?_
  refine aw_p 7 (
    .a 1 5 <| .nil _ _) ?_
  refine aw_p 15 (
    .a 2 6 <| .nil _ _) ?_
  refine aw_p 31 (
    .a 4 6 <| .p (does_k [5] (shadd0S ax ay cx cy dx dy (by omega) (by omega) (by omega) (by omega) (by omega) (by omega) (by omega) (by omega) (by omega) (by omega) (by omega) (by omega) g0)) <| .nil _ _) ?_
  refine aw_p 63 (
    .a 4 6 <| .p (does_k [5, 6] (shadd0A bx b_y cx cy dx dy (by omega) (by omega) (by omega) (by omega) (by omega) (by omega) (by omega) (by omega) (by omega) (by omega) (by omega) (by omega) g1)) <| .nil _ _) ?_
  refine aw_p 127 (
    .a 4 7 <| .p (does_k [5, 6, 7] (shadd1A bx b_y cx cy ax ay bx b_y (by omega) (by omega) (by omega) (by omega) (by omega) (by omega) (by omega) (by omega) (by omega) (by omega) (by omega) (by omega) g2)) <| .nil _ _) ?_
  refine aw_p 255 (
    .a 4 8 <| .p (does_k [5, 7, 0] (shadd2A bx b_y cx cy dx dy ax ay bx b_y (by omega) (by omega) (by omega) (by omega) (by omega) (by omega) (by omega) (by omega) (by omega) (by omega) (by omega) (by omega) g3)) <| .nil _ _) ?_
  refine aw_p 511 (
    .a 2 8 <| .nil _ _) ?_
  refine aw_rt ?_
  exact en_ret [.slice (some ⟨0, 0, none⟩) 3 0] (by kernel_rfl)

theorem shared1000 (ax ay bx b_y cx cy dx dy : Int) (axl : -1048576 ≤ ax) (axu : ax ≤ 1048576) (ayl : -1048576 ≤ ay) (ayu : ay ≤ 1048576) (bxl : -1048576 ≤ bx) (bxu : bx ≤ 1048576) (b_yl : -1048576 ≤ b_y) (b_yu : b_y ≤ 1048576) (cxl : -1048576 ≤ cx) (cxu : cx ≤ 1048576) (cyl : -1048576 ≤ cy) (cyu : cy ≤ 1048576) (dxl : -1048576 ≤ dx) (dxu : dx ≤ 1048576) (dyl : -1048576 ≤ dy) (dyu : dy ≤ 1048576) (g0 : Sp.addb [] ax ay cx cy dx dy = true) (g1 : Sp.addb [(ax, ay)] bx b_y cx cy dx dy = false) (g2 : Sp.addb [(ax, ay)] cx cy ax ay bx b_y = false) (g3 : Sp.addb [(ax, ay)] dx dy ax ay bx b_y = false) :
    AC Try.prog 110 0 ([.agg #[.int .i64 ax, .int .i64 ay], .agg #[.int .i64 bx, .int .i64 b_y], .agg #[.int .i64 cx, .int .i64 cy], .agg #[.int .i64 dx, .int .i64 dy]]) [] (.slice (some ⟨0, 0, none⟩) 1 0) [(0, ⟨[.int .i64 ax, .int .i64 ay], 28, true, 2⟩)] := by
  refine ac_in Try.func110 (fun w0 W pin => ?_)
  refine aw_p 3 (
    .a 5 1 <| .nil _ _) ?_
  refine aw_p 7 (
    .a 1 5 <| .nil _ _) ?_
  refine aw_p 15 (
    .a 2 6 <| .nil _ _) ?_
  refine aw_p 31 (
    .a 4 6 <| .p (does_k [5, 0] (shadd0A ax ay cx cy dx dy (by omega) (by omega) (by omega) (by omega) (by omega) (by omega) (by omega) (by omega) (by omega) (by omega) (by omega) (by omega) g0)) <| .nil _ _) ?_
  refine aw_p 63 (
    .a 4 6 <| .p (does_k [5, 0] (shadd1S ax ay bx b_y cx cy dx dy (by omega) (by omega) (by omega) (by omega) (by omega) (by omega) (by omega) (by omega) (by omega) (by omega) (by omega) (by omega) g1)) <| .nil _ _) ?_
  refine aw_p 127 (
    .a 4 6 <| .p (does_k [5, 0] (shadd1S ax ay cx cy ax ay bx b_y (by omega) (by omega) (by omega) (by omega) (by omega) (by omega) (by omega) (by omega) (by omega) (by omega) (by omega) (by omega) g2)) <| .nil _ _) ?_
  refine aw_p 255 (
    .a 4 6 <| .p (does_k [5, 0] (shadd1S ax ay dx dy ax ay bx b_y (by omega) (by omega) (by omega) (by omega) (by omega) (by omega) (by omega) (by omega) (by omega) (by omega) (by omega) (by omega) g3)) <| .nil _ _) ?_
  refine aw_p 511 (
    .a 2 6 <| .nil _ _) ?_
  refine aw_rt ?_
  exact en_ret [.slice (some ⟨0, 0, none⟩) 1 0] (by kernel_rfl)

theorem shared1001 (ax ay bx b_y cx cy dx dy : Int) (axl : -1048576 ≤ ax) (axu : ax ≤ 1048576) (ayl : -1048576 ≤ ay) (ayu : ay ≤ 1048576) (bxl : -1048576 ≤ bx) (bxu : bx ≤ 1048576) (b_yl : -1048576 ≤ b_y) (b_yu : b_y ≤ 1048576) (cxl : -1048576 ≤ cx) (cxu : cx ≤ 1048576) (cyl : -1048576 ≤ cy) (cyu : cy ≤ 1048576) (dxl : -1048576 ≤ dx) (dxu : dx ≤ 1048576) (dyl : -1048576 ≤ dy) (dyu : dy ≤ 1048576) (g0 : Sp.addb [] ax ay cx cy dx dy = true) (g1 : Sp.addb [(ax, ay)] bx b_y cx cy dx dy = false) (g2 : Sp.addb [(ax, ay)] cx cy ax ay bx b_y = false) (g3 : Sp.addb [(ax, ay)] dx dy ax ay bx b_y = true) :
    AC Try.prog 110 0 ([.agg #[.int .i64 ax, .int .i64 ay], .agg #[.int .i64 bx, .int .i64 b_y], .agg #[.int .i64 cx, .int .i64 cy], .agg #[.int .i64 dx, .int .i64 dy]]) [] (.slice (some ⟨0, 0, none⟩) 2 0) [(0, ⟨[.int .i64 ax, .int .i64 ay, .int .i64 dx, .int .i64 dy], 28, true, 2⟩)] := by
  refine ac_in Try.func110 (fun w0 W pin => ?_)
  refine aw_p 3 (
    .a 5 1 <| .nil _ _) ?_
  refine aw_p 7 (
    .a 1 5 <| .nil _ _) ?_
  refine aw_p 15 (
    .a 2 6 <| .nil _ _) ?_
  refine aw_p 31 (
    .a 4 6 <| .p (does_k [5, 6] (shadd0A ax ay cx cy dx dy (by omega) (by omega) (by omega) (by omega) (by omega) (by omega) (by omega) (by omega) (by omega) (by omega) (by omega) (by omega) g0)) <| .nil _ _) ?_
  refine aw_p 63 (
    .a 4 7 <| .p (does_k [5, 6] (shadd1S ax ay bx b_y cx cy dx dy (by omega) (by omega) (by omega) (by omega) (by omega) (by omega) (by omega) (by omega) (by omega) (by omega) (by omega) (by omega) g1)) <| .nil _ _) ?_
  refine aw_p 127 (
    .a 4 7 <| .p (does_k [5, 6] (shadd1S ax ay cx cy ax ay bx b_y (by omega) (by omega) (by omega) (by omega) (by omega) (by omega) (by omega) (by omega) (by omega) (by omega) (by omega) (by omega) g2)) <| .nil _ _) ?_
  refine aw_p 255 (
    .a 4 7 <| .p (does_k [5, 6, 0] (shadd1A ax ay dx dy ax ay bx b_y (by omega) (by omega) (by omega) (by omega) (by omega) (by omega) (by omega) (by omega) (by omega) (by omega) (by omega) (by omega) g3)) <| .nil _ _) ?_
  refine aw_p 511 (
    .a 2 7 <| .nil _ _) ?_
  refine aw_rt ?_
  exact en_ret [.slice (some ⟨0, 0, none⟩) 2 0] (by kernel_rfl)

theorem shared1010 (ax ay bx b_y cx cy dx dy : Int) (axl : -1048576 ≤ ax) (axu : ax ≤ 1048576) (ayl : -1048576 ≤ ay) (ayu : ay ≤ 1048576) (bxl : -1048576 ≤ bx) (bxu : bx ≤ 1048576) (b_yl : -1048576 ≤ b_y) (b_yu : b_y ≤ 1048576) (cxl : -1048576 ≤ cx) (cxu : cx ≤ 1048576) (cyl : -1048576 ≤ cy) (cyu : cy ≤ 1048576) (dxl : -1048576 ≤ dx) (dxu : dx ≤ 1048576) (dyl : -1048576 ≤ dy) (dyu : dy ≤ 1048576) (g0 : Sp.addb [] ax ay cx cy dx dy = true) (g1 : Sp.addb [(ax, ay)] bx b_y cx cy dx dy = false) (g2 : Sp.addb [(ax, ay)] cx cy ax ay bx b_y = true) (g3 : Sp.addb [(ax, ay), (cx, cy)] dx dy ax ay bx b_y = false) :
    AC Try.prog 110 0 ([.agg #[.int .i64 ax, .int .i64 ay], .agg #[.int .i64 bx, .int .i64 b_y], .agg #[.int .i64 cx, .int .i64 cy], .agg #[.int .i64 dx, .int .i64 dy]]) [] (.slice (some ⟨0, 0, none⟩) 2 0) [(0, ⟨[.int .i64 ax, .int .i64 ay, .int .i64 cx, .int .i64 cy], 28, true, 2⟩)] := by
  refine ac_in Try.func110 (fun w0 W pin => ?_)
  refine aw_p 3 (
    .a 5 1 <| .nil _ _) ?_
  refine aw_p 7 (
    .a 1 5 <| .nil _ _) ?_
  refine aw_p 15 (
    .a 2 6 <| .nil _ _) ?_
  refine aw_p 31 (
    .a 4 6 <| .p (does_k [5, 6] (shadd0A ax ay cx cy dx dy (by omega) (by omega) (by omega) (by omega) (by omega) (by omega) (by omega) (by omega) (by omega) (by omega) (by omega) (by omega) g0)) <| .nil _ _) ?_
  refine aw_p 63 (
    .a 4 7 <| .p (does_k [5, 6] (shadd1S ax ay bx b_y cx cy dx dy (by omega) (by omega) (by omega) (by omega) (by omega) (by omega) (by omega) (by omega) (by omega) (by omega) (by omega) (by omega) g1)) <| .nil _ _) ?_
  refine aw_p 127 (
    .a 4 7 <| .p (does_k [5, 6, 0] (shadd1A ax ay cx cy ax ay bx b_y (by omega) (by omega) (by omega) (by omega) (by omega) (by omega) (by omega) (by omega) (by omega) (by omega) (by omega) (by omega) g2)) <| .nil _ _) ?_
  refine aw_p 255 (
    .a 4 7 <| .p (does_k [5, 0] (shadd2S ax ay cx cy dx dy ax ay bx b_y (by omega) (by omega) (by omega) (by omega) (by omega) (by omega) (by omega) (by omega) (by omega) (by omega) (by omega) (by omega) g3)) <| .nil _ _) ?_
  refine aw_p 511 (
    .a 2 7 <| .nil _ _) ?_
  refine aw_rt ?_
  exact en_ret [.slice (some ⟨0, 0, none⟩) 2 0] (by kernel_rfl)

theorem shared1011 (ax ay bx b_y cx cy dx dy : Int) (axl : -1048576 ≤ ax) (axu : ax ≤ 1048576) (ayl : -1048576 ≤ ay) (ayu : ay ≤ 1048576) (bxl : -1048576 ≤ bx) (bxu : bx ≤ 1048576) (b_yl : -1048576 ≤ b_y) (b_yu : b_y ≤ 1048576) (cxl : -1048576 ≤ cx) (cxu : cx ≤ 1048576) (cyl : -1048576 ≤ cy) (cyu : cy ≤ 1048576) (dxl : -1048576 ≤ dx) (dxu : dx ≤ 1048576) (dyl : -1048576 ≤ dy) (dyu : dy ≤ 1048576) (g0 : Sp.addb [] ax ay cx cy dx dy = true) (g1 : Sp.addb [(ax, ay)] bx b_y cx cy dx dy = false) (g2 : Sp.addb [(ax, ay)] cx cy ax ay bx b_y = true) (g3 : Sp.addb [(ax, ay), (cx, cy)] dx dy ax ay bx b_y = true) :
    AC Try.prog 110 0 ([.agg #[.int .i64 ax, .int .i64 ay], .agg #[.int .i64 bx, .int .i64 b_y], .agg #[.int .i64 cx, .int .i64 cy], .agg #[.int .i64 dx, .int .i64 dy]]) [] (.slice (some ⟨0, 0, none⟩) 3 0) [(0, ⟨[.int .i64 ax, .int .i64 ay, .int .i64 cx, .int .i64 cy, .int .i64 dx, .int .i64 dy], 28, true, 2⟩)] := by
  refine ac_in Try.func110 (fun w0 W pin => ?_)
  refine aw_p 3 (
    .a 5 1 <| .nil _ _) ?_
  refine aw_p 7 (
    .a 1 5 <| .nil _ _) ?_
  refine aw_p 15 (
    .a 2 6 <| .nil _ _) ?_
  refine aw_p 31 (
    .a 4 6 <| .p (does_k [5, 6] (shadd0A ax ay cx cy dx dy (by omega) (by omega) (by omega) (by omega) (by omega) (by omega) (by omega) (by omega) (by omega) (by omega) (by omega) (by omega) g0)) <| .nil _ _) ?_
  refine aw_p 63 (
    .a 4 7 <| .p (does_k [5, 6] (shadd1S ax ay bx b_y cx cy dx dy (by omega) (by omega) (by omega) (by omega) (by omega) (by omega) (by omega) (by omega) (by omega) (by omega) (by omega) (by omega) g1)) <| .nil _ _) ?_
  refine aw_p 127 (
    .a 4 7 <| .p (does_k [5, 6, 7] (shadd1A ax ay cx cy ax ay bx b_y (by omega) (by omega) (by omega) (by omega) (by omega) (by omega) (by omega) (by omega) (by omega) (by omega) (by omega) (by omega) g2)) <| .nil _ _) ?_
  refine aw_p 255 (
    .a 4 8 <| .p (does_k [5, 7, 0] (shadd2A ax ay cx cy dx dy ax ay bx b_y (by omega) (by omega) (by omega) (by omega) (by omega) (by omega) (by omega) (by omega) (by omega) (by omega) (by omega) (by omega) g3)) <| .nil _ _) ?_
  refine aw_p 511 (
    .a 2 8 <| .nil _ _) ?_
  refine aw_rt ?_
  exact en_ret [.slice (some ⟨0, 0, none⟩) 3 0] (by kernel_rfl)

theorem shared1100 (ax ay bx b_y cx cy dx dy : Int) (axl : -1048576 ≤ ax) (axu : ax ≤ 1048576) (ayl : -1048576 ≤ ay) (ayu : ay ≤ 1048576) (bxl : -1048576 ≤ bx) (bxu : bx ≤ 1048576) (b_yl : -1048576 ≤ b_y) (b_yu : b_y ≤ 1048576) (cxl : -1048576 ≤ cx) (cxu : cx ≤ 1048576) (cyl : -1048576 ≤ cy) (cyu : cy ≤ 1048576) (dxl : -1048576 ≤ dx) (dxu : dx ≤ 1048576) (dyl : -1048576 ≤ dy) (dyu : dy ≤ 1048576) (g0 : Sp.addb [] ax ay cx cy dx dy = true) (g1 : Sp.addb [(ax, ay)] bx b_y cx cy dx dy = true) (g2 : Sp.addb [(ax, ay), (bx, b_y)] cx cy ax ay bx b_y = false) (g3 : Sp.addb [(ax, ay), (bx, b_y)] dx dy ax ay bx b_y = false) :
    AC Try.prog 110 0 ([.agg #[.int .i64 ax, .int .i64 ay], .agg #[.int .i64 bx, .int .i64 b_y], .agg #[.int .i64 cx, .int .i64 cy], .agg #[.int .i64 dx, .int .i64 dy]]) [] (.slice (some ⟨0, 0, none⟩) 2 0) [(0, ⟨[.int .i64 ax, .int .i64 ay, .int .i64 bx, .int .i64 b_y], 28, true, 2⟩)] := by
  refine ac_in Try.func110 (fun w0 W pin => ?_)
  refine aw_p 3 (
    .a 5 1 <| .nil _ _) ?_
  refine aw_p 7 (
    .a 1 5 <| .nil _ _) ?_
  refine aw_p 15 (
    .a 2 6 <| .nil _ _) ?_
  refine aw_p 31 (
    .a 4 6 <| .p (does_k [5, 6] (shadd0A ax ay cx cy dx dy (by omega) (by omega) (by omega) (by omega) (by omega) (by omega) (by omega) (by omega) (by omega) (by omega) (by omega) (by omega) g0)) <| .nil _ _) ?_
  refine aw_p 63 (
    .a 4 7 <| .p (does_k [5, 6, 0] (shadd1A ax ay bx b_y cx cy dx dy (by omega) (by omega) (by omega) (by omega) (by omega) (by omega) (by omega) (by omega) (by omega) (by omega) (by omega) (by omega) g1)) <| .nil _ _) ?_
  refine aw_p 127 (
    .a 4 7 <| .p (does_k [5, 0] (shadd2S ax ay bx b_y cx cy ax ay bx b_y (by omega) (by omega) (by omega) (by omega) (by omega) (by omega) (by omega) (by omega) (by omega) (by omega) (by omega) (by omega) g2)) <| .nil _ _) ?_
  refine aw_p 255 (
    .a 4 7 <| .p (does_k [5, 0] (shadd2S ax ay bx b_y dx dy ax ay bx b_y (by omega) (by omega) (by omega) (by omega) (by omega) (by omega) (by omega) (by omega) (by omega) (by omega) (by omega) (by omega) g3)) <| .nil _ _) ?_
  refine aw_p 511 (
    .a 2 7 <| .nil _ _) ?_
  refine aw_rt ?_
  exact en_ret [.slice (some ⟨0, 0, none⟩) 2 0] (by kernel_rfl)

theorem shared1101 (ax ay bx b_y cx cy dx dy : Int) (axl : -1048576 ≤ ax) (axu : ax ≤ 1048576) (ayl : -1048576 ≤ ay) (ayu : ay ≤ 1048576) (bxl : -1048576 ≤ bx) (bxu : bx ≤ 1048576) (b_yl : -1048576 ≤ b_y) (b_yu : b_y ≤ 1048576) (cxl : -1048576 ≤ cx) (cxu : cx ≤ 1048576) (cyl : -1048576 ≤ cy) (cyu : cy ≤ 1048576) (dxl : -1048576 ≤ dx) (dxu : dx ≤ 1048576) (dyl : -1048576 ≤ dy) (dyu : dy ≤ 1048576) (g0 : Sp.addb [] ax ay cx cy dx dy = true) (g1 : Sp.addb [(ax, ay)] bx b_y cx cy dx dy = true) (g2 : Sp.addb [(ax, ay), (bx, b_y)] cx cy ax ay bx b_y = false) (g3 : Sp.addb [(ax, ay), (bx, b_y)] dx dy ax ay bx b_y = true) :
    AC Try.prog 110 0 ([.agg #[.int .i64 ax, .int .i64 ay], .agg #[.int .i64 bx, .int .i64 b_y], .agg #[.int .i64 cx, .int .i64 cy], .agg #[.int .i64 dx, .int .i64 dy]]) [] (.slice (some ⟨0, 0, none⟩) 3 0) [(0, ⟨[.int .i64 ax, .int .i64 ay, .int .i64 bx, .int .i64 b_y, .int .i64 dx, .int .i64 dy], 28, true, 2⟩)] := by
  refine ac_in Try.func110 (fun w0 W pin => ?_)
  refine aw_p 3 (
    .a 5 1 <| .nil _ _) ?_
  refine aw_p 7 (
    .a 1 5 <| .nil _ _) ?_
  refine aw_p 15 (
    .a 2 6 <| .nil _ _) ?_
  refine aw_p 31 (
    .a 4 6 <| .p (does_k [5, 6] (shadd0A ax ay cx cy dx dy (by omega) (by omega) (by omega) (by omega) (by omega) (by omega) (by omega) (by omega) (by omega) (by omega) (by omega) (by omega) g0)) <| .nil _ _) ?_
  refine aw_p 63 (
    .a 4 7 <| .p (does_k [5, 6, 7] (shadd1A ax ay bx b_y cx cy dx dy (by omega) (by omega) (by omega) (by omega) (by omega) (by omega) (by omega) (by omega) (by omega) (by omega) (by omega) (by omega) g1)) <| .nil _ _) ?_
  refine aw_p 127 (
    .a 4 8 <| .p (does_k [5, 7] (shadd2S ax ay bx b_y cx cy ax ay bx b_y (by omega) (by omega) (by omega) (by omega) (by omega) (by omega) (by omega) (by omega) (by omega) (by omega) (by omega) (by omega) g2)) <| .nil _ _) ?_
  refine aw_p 255 (
    .a 4 8 <| .p (does_k [5, 7, 0] (shadd2A ax ay bx b_y dx dy ax ay bx b_y (by omega) (by omega) (by omega) (by omega) (by omega) (by omega) (by omega) (by omega) (by omega) (by omega) (by omega) (by omega) g3)) <| .nil _ _) ?_
  refine aw_p 511 (
    .a 2 8 <| .nil _ _) ?_
  refine aw_rt ?_
  exact en_ret [.slice (some ⟨0, 0, none⟩) 3 0] (by kernel_rfl)

theorem shared1110 (ax ay bx b_y cx cy dx dy : Int) (axl : -1048576 ≤ ax) (axu : ax ≤ 1048576) (ayl : -1048576 ≤ ay) (ayu : ay ≤ 1048576) (bxl : -1048576 ≤ bx) (bxu : bx ≤ 1048576) (b_yl : -1048576 ≤ b_y) (b_yu : b_y ≤ 1048576) (cxl : -1048576 ≤ cx) (cxu : cx ≤ 1048576) (cyl : -1048576 ≤ cy) (cyu : cy ≤ 1048576) (dxl : -1048576 ≤ dx) (dxu : dx ≤ 1048576) (dyl : -1048576 ≤ dy) (dyu : dy ≤ 1048576) (g0 : Sp.addb [] ax ay cx cy dx dy = true) (g1 : Sp.addb [(ax, ay)] bx b_y cx cy dx dy = true) (g2 : Sp.addb [(ax, ay), (bx, b_y)] cx cy ax ay bx b_y = true) (g3 : Sp.addb [(ax, ay), (bx, b_y), (cx, cy)] dx dy ax ay bx b_y = false) :
    AC Try.prog 110 0 ([.agg #[.int .i64 ax, .int .i64 ay], .agg #[.int .i64 bx, .int .i64 b_y], .agg #[.int .i64 cx, .int .i64 cy], .agg #[.int .i64 dx, .int .i64 dy]]) [] (.slice (some ⟨0, 0, none⟩) 3 0) [(0, ⟨[.int .i64 ax, .int .i64 ay, .int .i64 bx, .int .i64 b_y, .int .i64 cx, .int .i64 cy], 28, true, 2⟩)] := by
  refine ac_in Try.func110 (fun w0 W pin => ?_)
  refine aw_p 3 (
    .a 5 1 <| .nil _ _) ?_
  refine aw_p 7 (
    .a 1 5 <| .nil _ _) ?_
  refine aw_p 15 (
    .a 2 6 <| .nil _ _) ?_
  refine aw_p 31 (
    .a 4 6 <| .p (does_k [5, 6] (shadd0A ax ay cx cy dx dy (by omega) (by omega) (by omega) (by omega) (by omega) (by omega) (by omega) (by omega) (by omega) (by omega) (by omega) (by omega) g0)) <| .nil _ _) ?_
  refine aw_p 63 (
    .a 4 7 <| .p (does_k [5, 6, 7] (shadd1A ax ay bx b_y cx cy dx dy (by omega) (by omega) (by omega) (by omega) (by omega) (by omega) (by omega) (by omega) (by omega) (by omega) (by omega) (by omega) g1)) <| .nil _ _) ?_
  refine aw_p 127 (
    .a 4 8 <| .p (does_k [5, 7, 0] (shadd2A ax ay bx b_y cx cy ax ay bx b_y (by omega) (by omega) (by omega) (by omega) (by omega) (by omega) (by omega) (by omega) (by omega) (by omega) (by omega) (by omega) g2)) <| .nil _ _) ?_
  refine aw_p 255 (
    .a 4 8 <| .p (does_k [5, 0] (shadd3S ax ay bx b_y cx cy dx dy ax ay bx b_y (by omega) (by omega) (by omega) (by omega) (by omega) (by omega) (by omega) (by omega) (by omega) (by omega) (by omega) (by omega) g3)) <| .nil _ _) ?_
  refine aw_p 511 (
    .a 2 8 <| .nil _ _) ?_
  refine aw_rt ?_
  exact en_ret [.slice (some ⟨0, 0, none⟩) 3 0] (by kernel_rfl)

theorem shared1111 (ax ay bx b_y cx cy dx dy : Int) (axl : -1048576 ≤ ax) (axu : ax ≤ 1048576) (ayl : -1048576 ≤ ay) (ayu : ay ≤ 1048576) (bxl : -1048576 ≤ bx) (bxu : bx ≤ 1048576) (b_yl : -1048576 ≤ b_y) (b_yu : b_y ≤ 1048576) (cxl : -1048576 ≤ cx) (cxu : cx ≤ 1048576) (cyl : -1048576 ≤ cy) (cyu : cy ≤ 1048576) (dxl : -1048576 ≤ dx) (dxu : dx ≤ 1048576) (dyl : -1048576 ≤ dy) (dyu : dy ≤ 1048576) (g0 : Sp.addb [] ax ay cx cy dx dy = true) (g1 : Sp.addb [(ax, ay)] bx b_y cx cy dx dy = true) (g2 : Sp.addb [(ax, ay), (bx, b_y)] cx cy ax ay bx b_y = true) (g3 : Sp.addb [(ax, ay), (bx, b_y), (cx, cy)] dx dy ax ay bx b_y = true) :
    AC Try.prog 110 0 ([.agg #[.int .i64 ax, .int .i64 ay], .agg #[.int .i64 bx, .int .i64 b_y], .agg #[.int .i64 cx, .int .i64 cy], .agg #[.int .i64 dx, .int .i64 dy]]) [] (.slice (some ⟨0, 0, none⟩) 4 0) [(0, ⟨[.int .i64 ax, .int .i64 ay, .int .i64 bx, .int .i64 b_y, .int .i64 cx, .int .i64 cy, .int .i64 dx, .int .i64 dy], 28, true, 2⟩)] := by
  refine ac_in Try.func110 (fun w0 W pin => ?_)
  refine aw_p 3 (
    .a 5 1 <| .nil _ _) ?_
  refine aw_p 7 (
    .a 1 5 <| .nil _ _) ?_
  refine aw_p 15 (
    .a 2 6 <| .nil _ _) ?_
  refine aw_p 31 (
    .a 4 6 <| .p (does_k [5, 6] (shadd0A ax ay cx cy dx dy (by omega) (by omega) (by omega) (by omega) (by omega) (by omega) (by omega) (by omega) (by omega) (by omega) (by omega) (by omega) g0)) <| .nil _ _) ?_
  refine aw_p 63 (
    .a 4 7 <| .p (does_k [5, 6, 7] (shadd1A ax ay bx b_y cx cy dx dy (by omega) (by omega) (by omega) (by omega) (by omega) (by omega) (by omega) (by omega) (by omega) (by omega) (by omega) (by omega) g1)) <| .nil _ _) ?_
  refine aw_p 127 (
    .a 4 8 <| .p (does_k [5, 7, 8] (shadd2A ax ay bx b_y cx cy ax ay bx b_y (by omega) (by omega) (by omega) (by omega) (by omega) (by omega) (by omega) (by omega) (by omega) (by omega) (by omega) (by omega) g2)) <| .nil _ _) ?_
  refine aw_p 255 (
    .a 4 9 <| .p (does_k [5, 8, 0] (shadd3A ax ay bx b_y cx cy dx dy ax ay bx b_y (by omega) (by omega) (by omega) (by omega) (by omega) (by omega) (by omega) (by omega) (by omega) (by omega) (by omega) (by omega) g3)) <| .nil _ _) ?_
  refine aw_p 511 (
    .a 2 9 <| .nil _ _) ?_
  refine aw_rt ?_
  exact en_ret [.slice (some ⟨0, 0, none⟩) 4 0] (by kernel_rfl)

theorem shared_nil (ax ay bx b_y cx cy dx dy : Int) (axl : -1048576 ≤ ax) (axu : ax ≤ 1048576) (ayl : -1048576 ≤ ay) (ayu : ay ≤ 1048576) (bxl : -1048576 ≤ bx) (bxu : bx ≤ 1048576) (b_yl : -1048576 ≤ b_y) (b_yu : b_y ≤ 1048576) (cxl : -1048576 ≤ cx) (cxu : cx ≤ 1048576) (cyl : -1048576 ≤ cy) (cyu : cy ≤ 1048576) (dxl : -1048576 ≤ dx) (dxu : dx ≤ 1048576) (dyl : -1048576 ≤ dy) (dyu : dy ≤ 1048576) (h : Sp.shr ax ay bx b_y cx cy dx dy = []) : AC Try.prog 110 0 [.agg #[.int .i64 ax, .int .i64 ay], .agg #[.int .i64 bx, .int .i64 b_y], .agg #[.int .i64 cx, .int .i64 cy], .agg #[.int .i64 dx, .int .i64 dy]] [] (.slice none 0 0) [] := by
  rcases Bool.eq_false_or_eq_true (Sp.addb [] ax ay cx cy dx dy) with g0 | g0
  · rcases Bool.eq_false_or_eq_true (Sp.addb [(ax, ay)] bx b_y cx cy dx dy) with g1 | g1
    · rcases Bool.eq_false_or_eq_true (Sp.addb [(ax, ay), (bx, b_y)] cx cy ax ay bx b_y) with g2 | g2
      · rcases Bool.eq_false_or_eq_true (Sp.addb [(ax, ay), (bx, b_y), (cx, cy)] dx dy ax ay bx b_y) with g3 | g3
        · unfold Sp.shr at h
          rw [(show Sp.addp [] ax ay cx cy dx dy = [(ax, ay)] from Sp.addp_y g0), (show Sp.addp [(ax, ay)] bx b_y cx cy dx dy = [(ax, ay), (bx, b_y)] from Sp.addp_y g1), (show Sp.addp [(ax, ay), (bx, b_y)] cx cy ax ay bx b_y = [(ax, ay), (bx, b_y), (cx, cy)] from Sp.addp_y g2), (show Sp.addp [(ax, ay), (bx, b_y), (cx, cy)] dx dy ax ay bx b_y = [(ax, ay), (bx, b_y), (cx, cy), (dx, dy)] from Sp.addp_y g3)] at h
          simp at h
        · unfold Sp.shr at h
          rw [(show Sp.addp [] ax ay cx cy dx dy = [(ax, ay)] from Sp.addp_y g0), (show Sp.addp [(ax, ay)] bx b_y cx cy dx dy = [(ax, ay), (bx, b_y)] from Sp.addp_y g1), (show Sp.addp [(ax, ay), (bx, b_y)] cx cy ax ay bx b_y = [(ax, ay), (bx, b_y), (cx, cy)] from Sp.addp_y g2), (show Sp.addp [(ax, ay), (bx, b_y), (cx, cy)] dx dy ax ay bx b_y = [(ax, ay), (bx, b_y), (cx, cy)] from Sp.addp_n g3)] at h
          simp at h
      · rcases Bool.eq_false_or_eq_true (Sp.addb [(ax, ay), (bx, b_y)] dx dy ax ay bx b_y) with g3 | g3
        · unfold Sp.shr at h
          rw [(show Sp.addp [] ax ay cx cy dx dy = [(ax, ay)] from Sp.addp_y g0), (show Sp.addp [(ax, ay)] bx b_y cx cy dx dy = [(ax, ay), (bx, b_y)] from Sp.addp_y g1), (show Sp.addp [(ax, ay), (bx, b_y)] cx cy ax ay bx b_y = [(ax, ay), (bx, b_y)] from Sp.addp_n g2), (show Sp.addp [(ax, ay), (bx, b_y)] dx dy ax ay bx b_y = [(ax, ay), (bx, b_y), (dx, dy)] from Sp.addp_y g3)] at h
          simp at h
        · unfold Sp.shr at h
          rw [(show Sp.addp [] ax ay cx cy dx dy = [(ax, ay)] from Sp.addp_y g0), (show Sp.addp [(ax, ay)] bx b_y cx cy dx dy = [(ax, ay), (bx, b_y)] from Sp.addp_y g1), (show Sp.addp [(ax, ay), (bx, b_y)] cx cy ax ay bx b_y = [(ax, ay), (bx, b_y)] from Sp.addp_n g2), (show Sp.addp [(ax, ay), (bx, b_y)] dx dy ax ay bx b_y = [(ax, ay), (bx, b_y)] from Sp.addp_n g3)] at h
          simp at h
    · rcases Bool.eq_false_or_eq_true (Sp.addb [(ax, ay)] cx cy ax ay bx b_y) with g2 | g2
      · rcases Bool.eq_false_or_eq_true (Sp.addb [(ax, ay), (cx, cy)] dx dy ax ay bx b_y) with g3 | g3
        · unfold Sp.shr at h
          rw [(show Sp.addp [] ax ay cx cy dx dy = [(ax, ay)] from Sp.addp_y g0), (show Sp.addp [(ax, ay)] bx b_y cx cy dx dy = [(ax, ay)] from Sp.addp_n g1), (show Sp.addp [(ax, ay)] cx cy ax ay bx b_y = [(ax, ay), (cx, cy)] from Sp.addp_y g2), (show Sp.addp [(ax, ay), (cx, cy)] dx dy ax ay bx b_y = [(ax, ay), (cx, cy), (dx, dy)] from Sp.addp_y g3)] at h
          simp at h
        · unfold Sp.shr at h
          rw [(show Sp.addp [] ax ay cx cy dx dy = [(ax, ay)] from Sp.addp_y g0), (show Sp.addp [(ax, ay)] bx b_y cx cy dx dy = [(ax, ay)] from Sp.addp_n g1), (show Sp.addp [(ax, ay)] cx cy ax ay bx b_y = [(ax, ay), (cx, cy)] from Sp.addp_y g2), (show Sp.addp [(ax, ay), (cx, cy)] dx dy ax ay bx b_y = [(ax, ay), (cx, cy)] from Sp.addp_n g3)] at h
          simp at h
      · rcases Bool.eq_false_or_eq_true (Sp.addb [(ax, ay)] dx dy ax ay bx b_y) with g3 | g3
        · unfold Sp.shr at h
          rw [(show Sp.addp [] ax ay cx cy dx dy = [(ax, ay)] from Sp.addp_y g0), (show Sp.addp [(ax, ay)] bx b_y cx cy dx dy = [(ax, ay)] from Sp.addp_n g1), (show Sp.addp [(ax, ay)] cx cy ax ay bx b_y = [(ax, ay)] from Sp.addp_n g2), (show Sp.addp [(ax, ay)] dx dy ax ay bx b_y = [(ax, ay), (dx, dy)] from Sp.addp_y g3)] at h
          simp at h
        · unfold Sp.shr at h
          rw [(show Sp.addp [] ax ay cx cy dx dy = [(ax, ay)] from Sp.addp_y g0), (show Sp.addp [(ax, ay)] bx b_y cx cy dx dy = [(ax, ay)] from Sp.addp_n g1), (show Sp.addp [(ax, ay)] cx cy ax ay bx b_y = [(ax, ay)] from Sp.addp_n g2), (show Sp.addp [(ax, ay)] dx dy ax ay bx b_y = [(ax, ay)] from Sp.addp_n g3)] at h
          simp at h
  · rcases Bool.eq_false_or_eq_true (Sp.addb [] bx b_y cx cy dx dy) with g1 | g1
    · rcases Bool.eq_false_or_eq_true (Sp.addb [(bx, b_y)] cx cy ax ay bx b_y) with g2 | g2
      · rcases Bool.eq_false_or_eq_true (Sp.addb [(bx, b_y), (cx, cy)] dx dy ax ay bx b_y) with g3 | g3
        · unfold Sp.shr at h
          rw [(show Sp.addp [] ax ay cx cy dx dy = [] from Sp.addp_n g0), (show Sp.addp [] bx b_y cx cy dx dy = [(bx, b_y)] from Sp.addp_y g1), (show Sp.addp [(bx, b_y)] cx cy ax ay bx b_y = [(bx, b_y), (cx, cy)] from Sp.addp_y g2), (show Sp.addp [(bx, b_y), (cx, cy)] dx dy ax ay bx b_y = [(bx, b_y), (cx, cy), (dx, dy)] from Sp.addp_y g3)] at h
          simp at h
        · unfold Sp.shr at h
          rw [(show Sp.addp [] ax ay cx cy dx dy = [] from Sp.addp_n g0), (show Sp.addp [] bx b_y cx cy dx dy = [(bx, b_y)] from Sp.addp_y g1), (show Sp.addp [(bx, b_y)] cx cy ax ay bx b_y = [(bx, b_y), (cx, cy)] from Sp.addp_y g2), (show Sp.addp [(bx, b_y), (cx, cy)] dx dy ax ay bx b_y = [(bx, b_y), (cx, cy)] from Sp.addp_n g3)] at h
          simp at h
      · rcases Bool.eq_false_or_eq_true (Sp.addb [(bx, b_y)] dx dy ax ay bx b_y) with g3 | g3
        · unfold Sp.shr at h
          rw [(show Sp.addp [] ax ay cx cy dx dy = [] from Sp.addp_n g0), (show Sp.addp [] bx b_y cx cy dx dy = [(bx, b_y)] from Sp.addp_y g1), (show Sp.addp [(bx, b_y)] cx cy ax ay bx b_y = [(bx, b_y)] from Sp.addp_n g2), (show Sp.addp [(bx, b_y)] dx dy ax ay bx b_y = [(bx, b_y), (dx, dy)] from Sp.addp_y g3)] at h
          simp at h
        · unfold Sp.shr at h
          rw [(show Sp.addp [] ax ay cx cy dx dy = [] from Sp.addp_n g0), (show Sp.addp [] bx b_y cx cy dx dy = [(bx, b_y)] from Sp.addp_y g1), (show Sp.addp [(bx, b_y)] cx cy ax ay bx b_y = [(bx, b_y)] from Sp.addp_n g2), (show Sp.addp [(bx, b_y)] dx dy ax ay bx b_y = [(bx, b_y)] from Sp.addp_n g3)] at h
          simp at h
    · rcases Bool.eq_false_or_eq_true (Sp.addb [] cx cy ax ay bx b_y) with g2 | g2
      · rcases Bool.eq_false_or_eq_true (Sp.addb [(cx, cy)] dx dy ax ay bx b_y) with g3 | g3
        · unfold Sp.shr at h
          rw [(show Sp.addp [] ax ay cx cy dx dy = [] from Sp.addp_n g0), (show Sp.addp [] bx b_y cx cy dx dy = [] from Sp.addp_n g1), (show Sp.addp [] cx cy ax ay bx b_y = [(cx, cy)] from Sp.addp_y g2), (show Sp.addp [(cx, cy)] dx dy ax ay bx b_y = [(cx, cy), (dx, dy)] from Sp.addp_y g3)] at h
          simp at h
        · unfold Sp.shr at h
          rw [(show Sp.addp [] ax ay cx cy dx dy = [] from Sp.addp_n g0), (show Sp.addp [] bx b_y cx cy dx dy = [] from Sp.addp_n g1), (show Sp.addp [] cx cy ax ay bx b_y = [(cx, cy)] from Sp.addp_y g2), (show Sp.addp [(cx, cy)] dx dy ax ay bx b_y = [(cx, cy)] from Sp.addp_n g3)] at h
          simp at h
      · rcases Bool.eq_false_or_eq_true (Sp.addb [] dx dy ax ay bx b_y) with g3 | g3
        · unfold Sp.shr at h
          rw [(show Sp.addp [] ax ay cx cy dx dy = [] from Sp.addp_n g0), (show Sp.addp [] bx b_y cx cy dx dy = [] from Sp.addp_n g1), (show Sp.addp [] cx cy ax ay bx b_y = [] from Sp.addp_n g2), (show Sp.addp [] dx dy ax ay bx b_y = [(dx, dy)] from Sp.addp_y g3)] at h
          simp at h
        · unfold Sp.shr at h
          rw [(show Sp.addp [] ax ay cx cy dx dy = [] from Sp.addp_n g0), (show Sp.addp [] bx b_y cx cy dx dy = [] from Sp.addp_n g1), (show Sp.addp [] cx cy ax ay bx b_y = [] from Sp.addp_n g2), (show Sp.addp [] dx dy ax ay bx b_y = [] from Sp.addp_n g3)] at h
          exact shared0000 ax ay bx b_y cx cy dx dy axl axu ayl ayu bxl bxu b_yl b_yu cxl cxu cyl cyu dxl dxu dyl dyu g0 g1 g2 g3

theorem shared_one (ax ay bx b_y cx cy dx dy zx zy : Int) (axl : -1048576 ≤ ax) (axu : ax ≤ 1048576) (ayl : -1048576 ≤ ay) (ayu : ay ≤ 1048576) (bxl : -1048576 ≤ bx) (bxu : bx ≤ 1048576) (b_yl : -1048576 ≤ b_y) (b_yu : b_y ≤ 1048576) (cxl : -1048576 ≤ cx) (cxu : cx ≤ 1048576) (cyl : -1048576 ≤ cy) (cyu : cy ≤ 1048576) (dxl : -1048576 ≤ dx) (dxu : dx ≤ 1048576) (dyl : -1048576 ≤ dy) (dyu : dy ≤ 1048576) (h : Sp.shr ax ay bx b_y cx cy dx dy = [(zx, zy)]) : AC Try.prog 110 0 [.agg #[.int .i64 ax, .int .i64 ay], .agg #[.int .i64 bx, .int .i64 b_y], .agg #[.int .i64 cx, .int .i64 cy], .agg #[.int .i64 dx, .int .i64 dy]] [] (.slice (some ⟨0, 0, none⟩) 1 0) [(0, ⟨[.int .i64 zx, .int .i64 zy], 28, true, 2⟩)] := by
  rcases Bool.eq_false_or_eq_true (Sp.addb [] ax ay cx cy dx dy) with g0 | g0
  · rcases Bool.eq_false_or_eq_true (Sp.addb [(ax, ay)] bx b_y cx cy dx dy) with g1 | g1
    · rcases Bool.eq_false_or_eq_true (Sp.addb [(ax, ay), (bx, b_y)] cx cy ax ay bx b_y) with g2 | g2
      · rcases Bool.eq_false_or_eq_true (Sp.addb [(ax, ay), (bx, b_y), (cx, cy)] dx dy ax ay bx b_y) with g3 | g3
        · unfold Sp.shr at h
          rw [(show Sp.addp [] ax ay cx cy dx dy = [(ax, ay)] from Sp.addp_y g0), (show Sp.addp [(ax, ay)] bx b_y cx cy dx dy = [(ax, ay), (bx, b_y)] from Sp.addp_y g1), (show Sp.addp [(ax, ay), (bx, b_y)] cx cy ax ay bx b_y = [(ax, ay), (bx, b_y), (cx, cy)] from Sp.addp_y g2), (show Sp.addp [(ax, ay), (bx, b_y), (cx, cy)] dx dy ax ay bx b_y = [(ax, ay), (bx, b_y), (cx, cy), (dx, dy)] from Sp.addp_y g3)] at h
          simp at h
        · unfold Sp.shr at h
          rw [(show Sp.addp [] ax ay cx cy dx dy = [(ax, ay)] from Sp.addp_y g0), (show Sp.addp [(ax, ay)] bx b_y cx cy dx dy = [(ax, ay), (bx, b_y)] from Sp.addp_y g1), (show Sp.addp [(ax, ay), (bx, b_y)] cx cy ax ay bx b_y = [(ax, ay), (bx, b_y), (cx, cy)] from Sp.addp_y g2), (show Sp.addp [(ax, ay), (bx, b_y), (cx, cy)] dx dy ax ay bx b_y = [(ax, ay), (bx, b_y), (cx, cy)] from Sp.addp_n g3)] at h
          simp at h
      · rcases Bool.eq_false_or_eq_true (Sp.addb [(ax, ay), (bx, b_y)] dx dy ax ay bx b_y) with g3 | g3
        · unfold Sp.shr at h
          rw [(show Sp.addp [] ax ay cx cy dx dy = [(ax, ay)] from Sp.addp_y g0), (show Sp.addp [(ax, ay)] bx b_y cx cy dx dy = [(ax, ay), (bx, b_y)] from Sp.addp_y g1), (show Sp.addp [(ax, ay), (bx, b_y)] cx cy ax ay bx b_y = [(ax, ay), (bx, b_y)] from Sp.addp_n g2), (show Sp.addp [(ax, ay), (bx, b_y)] dx dy ax ay bx b_y = [(ax, ay), (bx, b_y), (dx, dy)] from Sp.addp_y g3)] at h
          simp at h
        · unfold Sp.shr at h
          rw [(show Sp.addp [] ax ay cx cy dx dy = [(ax, ay)] from Sp.addp_y g0), (show Sp.addp [(ax, ay)] bx b_y cx cy dx dy = [(ax, ay), (bx, b_y)] from Sp.addp_y g1), (show Sp.addp [(ax, ay), (bx, b_y)] cx cy ax ay bx b_y = [(ax, ay), (bx, b_y)] from Sp.addp_n g2), (show Sp.addp [(ax, ay), (bx, b_y)] dx dy ax ay bx b_y = [(ax, ay), (bx, b_y)] from Sp.addp_n g3)] at h
          simp at h
    · rcases Bool.eq_false_or_eq_true (Sp.addb [(ax, ay)] cx cy ax ay bx b_y) with g2 | g2
      · rcases Bool.eq_false_or_eq_true (Sp.addb [(ax, ay), (cx, cy)] dx dy ax ay bx b_y) with g3 | g3
        · unfold Sp.shr at h
          rw [(show Sp.addp [] ax ay cx cy dx dy = [(ax, ay)] from Sp.addp_y g0), (show Sp.addp [(ax, ay)] bx b_y cx cy dx dy = [(ax, ay)] from Sp.addp_n g1), (show Sp.addp [(ax, ay)] cx cy ax ay bx b_y = [(ax, ay), (cx, cy)] from Sp.addp_y g2), (show Sp.addp [(ax, ay), (cx, cy)] dx dy ax ay bx b_y = [(ax, ay), (cx, cy), (dx, dy)] from Sp.addp_y g3)] at h
          simp at h
        · unfold Sp.shr at h
          rw [(show Sp.addp [] ax ay cx cy dx dy = [(ax, ay)] from Sp.addp_y g0), (show Sp.addp [(ax, ay)] bx b_y cx cy dx dy = [(ax, ay)] from Sp.addp_n g1), (show Sp.addp [(ax, ay)] cx cy ax ay bx b_y = [(ax, ay), (cx, cy)] from Sp.addp_y g2), (show Sp.addp [(ax, ay), (cx, cy)] dx dy ax ay bx b_y = [(ax, ay), (cx, cy)] from Sp.addp_n g3)] at h
          simp at h
      · rcases Bool.eq_false_or_eq_true (Sp.addb [(ax, ay)] dx dy ax ay bx b_y) with g3 | g3
        · unfold Sp.shr at h
          rw [(show Sp.addp [] ax ay cx cy dx dy = [(ax, ay)] from Sp.addp_y g0), (show Sp.addp [(ax, ay)] bx b_y cx cy dx dy = [(ax, ay)] from Sp.addp_n g1), (show Sp.addp [(ax, ay)] cx cy ax ay bx b_y = [(ax, ay)] from Sp.addp_n g2), (show Sp.addp [(ax, ay)] dx dy ax ay bx b_y = [(ax, ay), (dx, dy)] from Sp.addp_y g3)] at h
          simp at h
        · unfold Sp.shr at h
          rw [(show Sp.addp [] ax ay cx cy dx dy = [(ax, ay)] from Sp.addp_y g0), (show Sp.addp [(ax, ay)] bx b_y cx cy dx dy = [(ax, ay)] from Sp.addp_n g1), (show Sp.addp [(ax, ay)] cx cy ax ay bx b_y = [(ax, ay)] from Sp.addp_n g2), (show Sp.addp [(ax, ay)] dx dy ax ay bx b_y = [(ax, ay)] from Sp.addp_n g3)] at h
          simp only [List.cons.injEq, Prod.mk.injEq, and_true] at h; obtain ⟨rfl, rfl⟩ := h
          exact shared1000 ax ay bx b_y cx cy dx dy axl axu ayl ayu bxl bxu b_yl b_yu cxl cxu cyl cyu dxl dxu dyl dyu g0 g1 g2 g3
  · rcases Bool.eq_false_or_eq_true (Sp.addb [] bx b_y cx cy dx dy) with g1 | g1
    · rcases Bool.eq_false_or_eq_true (Sp.addb [(bx, b_y)] cx cy ax ay bx b_y) with g2 | g2
      · rcases Bool.eq_false_or_eq_true (Sp.addb [(bx, b_y), (cx, cy)] dx dy ax ay bx b_y) with g3 | g3
        · unfold Sp.shr at h
          rw [(show Sp.addp [] ax ay cx cy dx dy = [] from Sp.addp_n g0), (show Sp.addp [] bx b_y cx cy dx dy = [(bx, b_y)] from Sp.addp_y g1), (show Sp.addp [(bx, b_y)] cx cy ax ay bx b_y = [(bx, b_y), (cx, cy)] from Sp.addp_y g2), (show Sp.addp [(bx, b_y), (cx, cy)] dx dy ax ay bx b_y = [(bx, b_y), (cx, cy), (dx, dy)] from Sp.addp_y g3)] at h
          simp at h
        · unfold Sp.shr at h
          rw [(show Sp.addp [] ax ay cx cy dx dy = [] from Sp.addp_n g0), (show Sp.addp [] bx b_y cx cy dx dy = [(bx, b_y)] from Sp.addp_y g1), (show Sp.addp [(bx, b_y)] cx cy ax ay bx b_y = [(bx, b_y), (cx, cy)] from Sp.addp_y g2), (show Sp.addp [(bx, b_y), (cx, cy)] dx dy ax ay bx b_y = [(bx, b_y), (cx, cy)] from Sp.addp_n g3)] at h
          simp at h
      · rcases Bool.eq_false_or_eq_true (Sp.addb [(bx, b_y)] dx dy ax ay bx b_y) with g3 | g3
        · unfold Sp.shr at h
          rw [(show Sp.addp [] ax ay cx cy dx dy = [] from Sp.addp_n g0), (show Sp.addp [] bx b_y cx cy dx dy = [(bx, b_y)] from Sp.addp_y g1), (show Sp.addp [(bx, b_y)] cx cy ax ay bx b_y = [(bx, b_y)] from Sp.addp_n g2), (show Sp.addp [(bx, b_y)] dx dy ax ay bx b_y = [(bx, b_y), (dx, dy)] from Sp.addp_y g3)] at h
          simp at h
        · unfold Sp.shr at h
          rw [(show Sp.addp [] ax ay cx cy dx dy = [] from Sp.addp_n g0), (show Sp.addp [] bx b_y cx cy dx dy = [(bx, b_y)] from Sp.addp_y g1), (show Sp.addp [(bx, b_y)] cx cy ax ay bx b_y = [(bx, b_y)] from Sp.addp_n g2), (show Sp.addp [(bx, b_y)] dx dy ax ay bx b_y = [(bx, b_y)] from Sp.addp_n g3)] at h
          simp only [List.cons.injEq, Prod.mk.injEq, and_true] at h; obtain ⟨rfl, rfl⟩ := h
          exact shared0100 ax ay bx b_y cx cy dx dy axl axu ayl ayu bxl bxu b_yl b_yu cxl cxu cyl cyu dxl dxu dyl dyu g0 g1 g2 g3
    · rcases Bool.eq_false_or_eq_true (Sp.addb [] cx cy ax ay bx b_y) with g2 | g2
      · rcases Bool.eq_false_or_eq_true (Sp.addb [(cx, cy)] dx dy ax ay bx b_y) with g3 | g3
        · unfold Sp.shr at h
          rw [(show Sp.addp [] ax ay cx cy dx dy = [] from Sp.addp_n g0), (show Sp.addp [] bx b_y cx cy dx dy = [] from Sp.addp_n g1), (show Sp.addp [] cx cy ax ay bx b_y = [(cx, cy)] from Sp.addp_y g2), (show Sp.addp [(cx, cy)] dx dy ax ay bx b_y = [(cx, cy), (dx, dy)] from Sp.addp_y g3)] at h
          simp at h
        · unfold Sp.shr at h
          rw [(show Sp.addp [] ax ay cx cy dx dy = [] from Sp.addp_n g0), (show Sp.addp [] bx b_y cx cy dx dy = [] from Sp.addp_n g1), (show Sp.addp [] cx cy ax ay bx b_y = [(cx, cy)] from Sp.addp_y g2), (show Sp.addp [(cx, cy)] dx dy ax ay bx b_y = [(cx, cy)] from Sp.addp_n g3)] at h
          simp only [List.cons.injEq, Prod.mk.injEq, and_true] at h; obtain ⟨rfl, rfl⟩ := h
          exact shared0010 ax ay bx b_y cx cy dx dy axl axu ayl ayu bxl bxu b_yl b_yu cxl cxu cyl cyu dxl dxu dyl dyu g0 g1 g2 g3
      · rcases Bool.eq_false_or_eq_true (Sp.addb [] dx dy ax ay bx b_y) with g3 | g3
        · unfold Sp.shr at h
          rw [(show Sp.addp [] ax ay cx cy dx dy = [] from Sp.addp_n g0), (show Sp.addp [] bx b_y cx cy dx dy = [] from Sp.addp_n g1), (show Sp.addp [] cx cy ax ay bx b_y = [] from Sp.addp_n g2), (show Sp.addp [] dx dy ax ay bx b_y = [(dx, dy)] from Sp.addp_y g3)] at h
          simp only [List.cons.injEq, Prod.mk.injEq, and_true] at h; obtain ⟨rfl, rfl⟩ := h
          exact shared0001 ax ay bx b_y cx cy dx dy axl axu ayl ayu bxl bxu b_yl b_yu cxl cxu cyl cyu dxl dxu dyl dyu g0 g1 g2 g3
        · unfold Sp.shr at h
          rw [(show Sp.addp [] ax ay cx cy dx dy = [] from Sp.addp_n g0), (show Sp.addp [] bx b_y cx cy dx dy = [] from Sp.addp_n g1), (show Sp.addp [] cx cy ax ay bx b_y = [] from Sp.addp_n g2), (show Sp.addp [] dx dy ax ay bx b_y = [] from Sp.addp_n g3)] at h
          simp at h


end Go.Proofs.Ytndkhgfecnbmnaa.Am
