import Derived.Test.YtadifmimefmcnaaProg
import Derived.Test.YtadifmimefmcnaaM2
import Derived.Test.YtadifmimefmcnaaM7
namespace Go.Proofs.Ytadifmimefmcnaa.Am
open Go Go.Proofs
set_option maxRecDepth 100000
set_option maxHeartbeats 4000000
set_option linter.unusedVariables false
set_option linter.unusedSimpArgs false
theorem shared0000 (ax ay bx b_y cx cy dx dy : Int) (axl : -1048576 ≤ ax) (axu : ax ≤ 1048576) (ayl : -1048576 ≤ ay) (ayu : ay ≤ 1048576) (bxl : -1048576 ≤ bx) (bxu : bx ≤ 1048576) (b_yl : -1048576 ≤ b_y) (b_yu : b_y ≤ 1048576) (cxl : -1048576 ≤ cx) (cxu : cx ≤ 1048576) (cyl : -1048576 ≤ cy) (cyu : cy ≤ 1048576) (dxl : -1048576 ≤ dx) (dxu : dx ≤ 1048576) (dyl : -1048576 ≤ dy) (dyu : dy ≤ 1048576) (g0 : Sp.addb [] ax ay cx cy dx dy = false) (g1 : Sp.addb [] bx b_y cx cy dx dy = false) (g2 : Sp.addb [] cx cy ax ay bx b_y = false) (g3 : Sp.addb [] dx dy ax ay bx b_y = false) :
    AC Try.prog 97 0 ([.agg #[.int .i64 ax, .int .i64 ay], .agg #[.int .i64 bx, .int .i64 b_y], .agg #[.int .i64 cx, .int .i64 cy], .agg #[.int .i64 dx, .int .i64 dy]]) [] (.slice none 0 0) [] := by
  refine ac_in Try.func97 (fun w0 W pin => ?_)
  refine aw_p 3 (
    .a 5 1 <| .nil _ _) ?_
  refine aw_p 7 (
    .a 1 5 <| .nil _ _) ?_
  refine aw_p 15 (
    .a 2 6 <| .nil _ _) ?_
  refine aw_p 31 (
    .a 4 6 <| .p (does_k [5] (shadd0S ax ay cx cy dx dy (by omega) (by omega) (by omega) (by omega) (by omega) (by omega) (by omega) (by omega) (by omega) (by omega) (by omega) (by omega) g0)) <| .nil _ _) ?_
  refine aw_p 63 (
    .a 4 6 <| .p (does_k [5] (shadd0S bx b_y cx cy dx dy (by omega) (by omega) (by omega) (by omega) (by omega) (by omega) (by omega) (by omega) (by omega) (by omega) (by omega) (by omega) g1)) <| .nil _ _) ?_
  refine aw_p 127 (
    .a 4 6 <| .p (does_k [5] (shadd0S cx cy ax ay bx b_y (by omega) (by omega) (by omega) (by omega) (by omega) (by omega) (by omega) (by omega) (by omega) (by omega) (by omega) (by omega) g2)) <| .nil _ _) ?_
  refine aw_p 255 (
    .a 4 6 <| .p (does_k [5] (shadd0S dx dy ax ay bx b_y (by omega) (by omega) (by omega) (by omega) (by omega) (by omega) (by omega) (by omega) (by omega) (by omega) (by omega) (by omega) g3)) <| .nil _ _) ?_
  refine aw_p 511 (
    .a 2 6 <| .nil _ _) ?_
  refine aw_rt ?_
  exact en_ret [.slice none 0 0] (by kernel_rfl)
theorem shared0001 (ax ay bx b_y cx cy dx dy : Int) (axl : -1048576 ≤ ax) (axu : ax ≤ 1048576) (ayl : -1048576 ≤ ay) (ayu : ay ≤ 1048576) (bxl : -1048576 ≤ bx) (bxu : bx ≤ 1048576) (b_yl : -1048576 ≤ b_y) (b_yu : b_y ≤ 1048576) (cxl : -1048576 ≤ cx) (cxu : cx ≤ 1048576) (cyl : -1048576 ≤ cy) (cyu : cy ≤ 1048576) (dxl : -1048576 ≤ dx) (dxu : dx ≤ 1048576) (dyl : -1048576 ≤ dy) (dyu : dy ≤ 1048576) (g0 : Sp.addb [] ax ay cx cy dx dy = false) (g1 : Sp.addb [] bx b_y cx cy dx dy = false) (g2 : Sp.addb [] cx cy ax ay bx b_y = false) (g3 : Sp.addb [] dx dy ax ay bx b_y = true) :
    AC Try.prog 97 0 ([.agg #[.int .i64 ax, .int .i64 ay], .agg #[.int .i64 bx, .int .i64 b_y], .agg #[.int .i64 cx, .int .i64 cy], .agg #[.int .i64 dx, .int .i64 dy]]) [] (.slice (some ⟨0, 0, none⟩) 1 0) [(0, ⟨[.int .i64 dx, .int .i64 dy], 29, true, 2⟩)] := by
  refine ac_in Try.func97 (fun w0 W pin => ?_)
  refine aw_p 3 (
    .a 5 1 <| .nil _ _) ?_
  refine aw_p 7 (
    .a 1 5 <| .nil _ _) ?_
  refine aw_p 15 (
    .a 2 6 <| .nil _ _) ?_
  refine aw_p 31 (
    .a 4 6 <| .p (does_k [5] (shadd0S ax ay cx cy dx dy (by omega) (by omega) (by omega) (by omega) (by omega) (by omega) (by omega) (by omega) (by omega) (by omega) (by omega) (by omega) g0)) <| .nil _ _) ?_
  refine aw_p 63 (
    .a 4 6 <| .p (does_k [5] (shadd0S bx b_y cx cy dx dy (by omega) (by omega) (by omega) (by omega) (by omega) (by omega) (by omega) (by omega) (by omega) (by omega) (by omega) (by omega) g1)) <| .nil _ _) ?_
  refine aw_p 127 (
    .a 4 6 <| .p (does_k [5] (shadd0S cx cy ax ay bx b_y (by omega) (by omega) (by omega) (by omega) (by omega) (by omega) (by omega) (by omega) (by omega) (by omega) (by omega) (by omega) g2)) <| .nil _ _) ?_
  refine aw_p 255 (
    .a 4 6 <| .p (does_k [5, 0] (shadd0A dx dy ax ay bx b_y (by omega) (by omega) (by omega) (by omega) (by omega) (by omega) (by omega) (by omega) (by omega) (by omega) (by omega) (by omega) g3)) <| .nil _ _) ?_
  refine aw_p 511 (
    .a 2 6 <| .nil _ _) ?_
  refine aw_rt ?_
  exact en_ret [.slice (some ⟨0, 0, none⟩) 1 0] (by kernel_rfl)
theorem shared0010 (ax ay bx b_y cx cy dx dy : Int) (axl : -1048576 ≤ ax) (axu : ax ≤ 1048576) (ayl : -1048576 ≤ ay) (ayu : ay ≤ 1048576) (bxl : -1048576 ≤ bx) (bxu : bx ≤ 1048576) (b_yl : -1048576 ≤ b_y) (b_yu : b_y ≤ 1048576) (cxl : -1048576 ≤ cx) (cxu : cx ≤ 1048576) (cyl : -1048576 ≤ cy) (cyu : cy ≤ 1048576) (dxl : -1048576 ≤ dx) (dxu : dx ≤ 1048576) (dyl : -1048576 ≤ dy) (dyu : dy ≤ 1048576) (g0 : Sp.addb [] ax ay cx cy dx dy = false) (g1 : Sp.addb [] bx b_y cx cy dx dy = false) (g2 : Sp.addb [] cx cy ax ay bx b_y = true) (g3 : Sp.addb [(cx, cy)] dx dy ax ay bx b_y = false) :
    AC Try.prog 97 0 ([.agg #[.int .i64 ax, .int .i64 ay], .agg #[.int .i64 bx, .int .i64 b_y], .agg #[.int .i64 cx, .int .i64 cy], .agg #[.int .i64 dx, .int .i64 dy]]) [] (.slice (some ⟨0, 0, none⟩) 1 0) [(0, ⟨[.int .i64 cx, .int .i64 cy], 29, true, 2⟩)] := by
  refine ac_in Try.func97 (fun w0 W pin => ?_)
  refine aw_p 3 (
    .a 5 1 <| .nil _ _) ?_
  refine aw_p 7 (
    .a 1 5 <| .nil _ _) ?_
  refine aw_p 15 (
    .a 2 6 <| .nil _ _) ?_
  refine aw_p 31 (
    .a 4 6 <| .p (does_k [5] (shadd0S ax ay cx cy dx dy (by omega) (by omega) (by omega) (by omega) (by omega) (by omega) (by omega) (by omega) (by omega) (by omega) (by omega) (by omega) g0)) <| .nil _ _) ?_
  refine aw_p 63 (
    .a 4 6 <| .p (does_k [5] (shadd0S bx b_y cx cy dx dy (by omega) (by omega) (by omega) (by omega) (by omega) (by omega) (by omega) (by omega) (by omega) (by omega) (by omega) (by omega) g1)) <| .nil _ _) ?_
  refine aw_p 127 (
    .a 4 6 <| .p (does_k [5, 0] (shadd0A cx cy ax ay bx b_y (by omega) (by omega) (by omega) (by omega) (by omega) (by omega) (by omega) (by omega) (by omega) (by omega) (by omega) (by omega) g2)) <| .nil _ _) ?_
  refine aw_p 255 (
    .a 4 6 <| .p (does_k [5, 0] (shadd1S cx cy dx dy ax ay bx b_y (by omega) (by omega) (by omega) (by omega) (by omega) (by omega) (by omega) (by omega) (by omega) (by omega) (by omega) (by omega) g3)) <| .nil _ _) ?_
  refine aw_p 511 (
    .a 2 6 <| .nil _ _) ?_
  refine aw_rt ?_
  exact en_ret [.slice (some ⟨0, 0, none⟩) 1 0] (by kernel_rfl)
theorem shared0011 (ax ay bx b_y cx cy dx dy : Int) (axl : -1048576 ≤ ax) (axu : ax ≤ 1048576) (ayl : -1048576 ≤ ay) (ayu : ay ≤ 1048576) (bxl : -1048576 ≤ bx) (bxu : bx ≤ 1048576) (b_yl : -1048576 ≤ b_y) (b_yu : b_y ≤ 1048576) (cxl : -1048576 ≤ cx) (cxu : cx ≤ 1048576) (cyl : -1048576 ≤ cy) (cyu : cy ≤ 1048576) (dxl : -1048576 ≤ dx) (dxu : dx ≤ 1048576) (dyl : -1048576 ≤ dy) (dyu : dy ≤ 1048576) (g0 : Sp.addb [] ax ay cx cy dx dy = false) (g1 : Sp.addb [] bx b_y cx cy dx dy = false) (g2 : Sp.addb [] cx cy ax ay bx b_y = true) (g3 : Sp.addb [(cx, cy)] dx dy ax ay bx b_y = true) :
    AC Try.prog 97 0 ([.agg #[.int .i64 ax, .int .i64 ay], .agg #[.int .i64 bx, .int .i64 b_y], .agg #[.int .i64 cx, .int .i64 cy], .agg #[.int .i64 dx, .int .i64 dy]]) [] (.slice (some ⟨0, 0, none⟩) 2 0) [(0, ⟨[.int .i64 cx, .int .i64 cy, .int .i64 dx, .int .i64 dy], 29, true, 2⟩)] := by
  refine ac_in Try.func97 (fun w0 W pin => ?_)
  refine aw_p 3 (
    .a 5 1 <| .nil _ _) ?_
  refine aw_p 7 (
    .a 1 5 <| .nil _ _) ?_
  refine aw_p 15 (
    .a 2 6 <| .nil _ _) ?_
  refine aw_p 31 (
    .a 4 6 <| .p (does_k [5] (shadd0S ax ay cx cy dx dy (by omega) (by omega) (by omega) (by omega) (by omega) (by omega) (by omega) (by omega) (by omega) (by omega) (by omega) (by omega) g0)) <| .nil _ _) ?_
  refine aw_p 63 (
    .a 4 6 <| .p (does_k [5] (shadd0S bx b_y cx cy dx dy (by omega) (by omega) (by omega) (by omega) (by omega) (by omega) (by omega) (by omega) (by omega) (by omega) (by omega) (by omega) g1)) <| .nil _ _) ?_
  refine aw_p 127 (
    .a 4 6 <| .p (does_k [5, 6] (shadd0A cx cy ax ay bx b_y (by omega) (by omega) (by omega) (by omega) (by omega) (by omega) (by omega) (by omega) (by omega) (by omega) (by omega) (by omega) g2)) <| .nil _ _) ?_
  refine aw_p 255 (
    .a 4 7 <| .p (does_k [5, 6, 0] (shadd1A cx cy dx dy ax ay bx b_y (by omega) (by omega) (by omega) (by omega) (by omega) (by omega) (by omega) (by omega) (by omega) (by omega) (by omega) (by omega) g3)) <| .nil _ _) ?_
  refine aw_p 511 (
    .a 2 7 <| .nil _ _) ?_
  refine aw_rt ?_
  exact en_ret [.slice (some ⟨0, 0, none⟩) 2 0] (by kernel_rfl)
theorem shared0100 (ax ay bx b_y cx cy dx dy : Int) (axl : -1048576 ≤ ax) (axu : ax ≤ 1048576) (ayl : -1048576 ≤ ay) (ayu : ay ≤ 1048576) (bxl : -1048576 ≤ bx) (bxu : bx ≤ 1048576) (b_yl : -1048576 ≤ b_y) (b_yu : b_y ≤ 1048576) (cxl : -1048576 ≤ cx) (cxu : cx ≤ 1048576) (cyl : -1048576 ≤ cy) (cyu : cy ≤ 1048576) (dxl : -1048576 ≤ dx) (dxu : dx ≤ 1048576) (dyl : -1048576 ≤ dy) (dyu : dy ≤ 1048576) (g0 : Sp.addb [] ax ay cx cy dx dy = false) (g1 : Sp.addb [] bx b_y cx cy dx dy = true) (g2 : Sp.addb [(bx, b_y)] cx cy ax ay bx b_y = false) (g3 : Sp.addb [(bx, b_y)] dx dy ax ay bx b_y = false) :
    AC Try.prog 97 0 ([.agg #[.int .i64 ax, .int .i64 ay], .agg #[.int .i64 bx, .int .i64 b_y], .agg #[.int .i64 cx, .int .i64 cy], .agg #[.int .i64 dx, .int .i64 dy]]) [] (.slice (some ⟨0, 0, none⟩) 1 0) [(0, ⟨[.int .i64 bx, .int .i64 b_y], 29, true, 2⟩)] := by
  refine ac_in Try.func97 (fun w0 W pin => ?_)
  refine aw_p 3 (
    .a 5 1 <| .nil _ _) ?_
  refine aw_p 7 (
    .a 1 5 <| .nil _ _) ?_
  refine aw_p 15 (
    .a 2 6 <| .nil _ _) ?_
  refine aw_p 31 (
    .a 4 6 <| .p (does_k [5] (shadd0S ax ay cx cy dx dy (by omega) (by omega) (by omega) (by omega) (by omega) (by omega) (by omega) (by omega) (by omega) (by omega) (by omega) (by omega) g0)) <| .nil _ _) ?_
  refine aw_p 63 (
    .a 4 6 <| .p (does_k [5, 0] (shadd0A bx b_y cx cy dx dy (by omega) (by omega) (by omega) (by omega) (by omega) (by omega) (by omega) (by omega) (by omega) (by omega) (by omega) (by omega) g1)) <| .nil _ _) ?_
  refine aw_p 127 (
    .a 4 6 <| .p (does_k [5, 0] (shadd1S bx b_y cx cy ax ay bx b_y (by omega) (by omega) (by omega) (by omega) (by omega) (by omega) (by omega) (by omega) (by omega) (by omega) (by omega) (by omega) g2)) <| .nil _ _) ?_
  refine aw_p 255 (
    .a 4 6 <| .p (does_k [5, 0] (shadd1S bx b_y dx dy ax ay bx b_y (by omega) (by omega) (by omega) (by omega) (by omega) (by omega) (by omega) (by omega) (by omega) (by omega) (by omega) (by omega) g3)) <| .nil _ _) ?_
  refine aw_p 511 (
    .a 2 6 <| .nil _ _) ?_
  refine aw_rt ?_
  exact en_ret [.slice (some ⟨0, 0, none⟩) 1 0] (by kernel_rfl)
theorem shared0101 (ax ay bx b_y cx cy dx dy : Int) (axl : -1048576 ≤ ax) (axu : ax ≤ 1048576) (ayl : -1048576 ≤ ay) (ayu : ay ≤ 1048576) (bxl : -1048576 ≤ bx) (bxu : bx ≤ 1048576) (b_yl : -1048576 ≤ b_y) (b_yu : b_y ≤ 1048576) (cxl : -1048576 ≤ cx) (cxu : cx ≤ 1048576) (cyl : -1048576 ≤ cy) (cyu : cy ≤ 1048576) (dxl : -1048576 ≤ dx) (dxu : dx ≤ 1048576) (dyl : -1048576 ≤ dy) (dyu : dy ≤ 1048576) (g0 : Sp.addb [] ax ay cx cy dx dy = false) (g1 : Sp.addb [] bx b_y cx cy dx dy = true) (g2 : Sp.addb [(bx, b_y)] cx cy ax ay bx b_y = false) (g3 : Sp.addb [(bx, b_y)] dx dy ax ay bx b_y = true) :
    AC Try.prog 97 0 ([.agg #[.int .i64 ax, .int .i64 ay], .agg #[.int .i64 bx, .int .i64 b_y], .agg #[.int .i64 cx, .int .i64 cy], .agg #[.int .i64 dx, .int .i64 dy]]) [] (.slice (some ⟨0, 0, none⟩) 2 0) [(0, ⟨[.int .i64 bx, .int .i64 b_y, .int .i64 dx, .int .i64 dy], 29, true, 2⟩)] := by
  refine ac_in Try.func97 (fun w0 W pin => ?_)
  refine aw_p 3 (
    .a 5 1 <| .nil _ _) ?_
  refine aw_p 7 (
    .a 1 5 <| .nil _ _) ?_
  refine aw_p 15 (
    .a 2 6 <| .nil _ _) ?_
  refine aw_p 31 (
    .a 4 6 <| .p (does_k [5] (shadd0S ax ay cx cy dx dy (by omega) (by omega) (by omega) (by omega) (by omega) (by omega) (by omega) (by omega) (by omega) (by omega) (by omega) (by omega) g0)) <| .nil _ _) ?_
  refine aw_p 63 (
    .a 4 6 <| .p (does_k [5, 6] (shadd0A bx b_y cx cy dx dy (by omega) (by omega) (by omega) (by omega) (by omega) (by omega) (by omega) (by omega) (by omega) (by omega) (by omega) (by omega) g1)) <| .nil _ _) ?_
  refine aw_p 127 (
    .a 4 7 <| .p (does_k [5, 6] (shadd1S bx b_y cx cy ax ay bx b_y (by omega) (by omega) (by omega) (by omega) (by omega) (by omega) (by omega) (by omega) (by omega) (by omega) (by omega) (by omega) g2)) <| .nil _ _) ?_
  refine aw_p 255 (
    .a 4 7 <| .p (does_k [5, 6, 0] (shadd1A bx b_y dx dy ax ay bx b_y (by omega) (by omega) (by omega) (by omega) (by omega) (by omega) (by omega) (by omega) (by omega) (by omega) (by omega) (by omega) g3)) <| .nil _ _) ?_
  refine aw_p 511 (
    .a 2 7 <| .nil _ _) ?_
  refine aw_rt ?_
  exact en_ret [.slice (some ⟨0, 0, none⟩) 2 0] (by kernel_rfl)
theorem shared0110 (ax ay bx b_y cx cy dx dy : Int) (axl : -1048576 ≤ ax) (axu : ax ≤ 1048576) (ayl : -1048576 ≤ ay) (ayu : ay ≤ 1048576) (bxl : -1048576 ≤ bx) (bxu : bx ≤ 1048576) (b_yl : -1048576 ≤ b_y) (b_yu : b_y ≤ 1048576) (cxl : -1048576 ≤ cx) (cxu : cx ≤ 1048576) (cyl : -1048576 ≤ cy) (cyu : cy ≤ 1048576) (dxl : -1048576 ≤ dx) (dxu : dx ≤ 1048576) (dyl : -1048576 ≤ dy) (dyu : dy ≤ 1048576) (g0 : Sp.addb [] ax ay cx cy dx dy = false) (g1 : Sp.addb [] bx b_y cx cy dx dy = true) (g2 : Sp.addb [(bx, b_y)] cx cy ax ay bx b_y = true) (g3 : Sp.addb [(bx, b_y), (cx, cy)] dx dy ax ay bx b_y = false) :
    AC Try.prog 97 0 ([.agg #[.int .i64 ax, .int .i64 ay], .agg #[.int .i64 bx, .int .i64 b_y], .agg #[.int .i64 cx, .int .i64 cy], .agg #[.int .i64 dx, .int .i64 dy]]) [] (.slice (some ⟨0, 0, none⟩) 2 0) [(0, ⟨[.int .i64 bx, .int .i64 b_y, .int .i64 cx, .int .i64 cy], 29, true, 2⟩)] := by
  refine ac_in Try.func97 (fun w0 W pin => ?_)
  refine aw_p 3 (
    .a 5 1 <| .nil _ _) ?_
  refine aw_p 7 (
    .a 1 5 <| .nil _ _) ?_
  refine aw_p 15 (
    .a 2 6 <| .nil _ _) ?_
  refine aw_p 31 (
    .a 4 6 <| .p (does_k [5] (shadd0S ax ay cx cy dx dy (by omega) (by omega) (by omega) (by omega) (by omega) (by omega) (by omega) (by omega) (by omega) (by omega) (by omega) (by omega) g0)) <| .nil _ _) ?_
  refine aw_p 63 (
    .a 4 6 <| .p (does_k [5, 6] (shadd0A bx b_y cx cy dx dy (by omega) (by omega) (by omega) (by omega) (by omega) (by omega) (by omega) (by omega) (by omega) (by omega) (by omega) (by omega) g1)) <| .nil _ _) ?_
  refine aw_p 127 (
    .a 4 7 <| .p (does_k [5, 6, 0] (shadd1A bx b_y cx cy ax ay bx b_y (by omega) (by omega) (by omega) (by omega) (by omega) (by omega) (by omega) (by omega) (by omega) (by omega) (by omega) (by omega) g2)) <| .nil _ _) ?_
  refine aw_p 255 (
    .a 4 7 <| .p (does_k [5, 0] (shadd2S bx b_y cx cy dx dy ax ay bx b_y (by omega) (by omega) (by omega) (by omega) (by omega) (by omega) (by omega) (by omega) (by omega) (by omega) (by omega) (by omega) g3)) <| .nil _ _) ?_
  refine aw_p 511 (
    .a 2 7 <| .nil _ _) ?_
  refine aw_rt ?_
  exact en_ret [.slice (some ⟨0, 0, none⟩) 2 0] (by kernel_rfl)
theorem shared0111 (ax ay bx b_y cx cy dx dy : Int) (axl : -1048576 ≤ ax) (axu : ax ≤ 1048576) (ayl : -1048576 ≤ ay) (ayu : ay ≤ 1048576) (bxl : -1048576 ≤ bx) (bxu : bx ≤ 1048576) (b_yl : -1048576 ≤ b_y) (b_yu : b_y ≤ 1048576) (cxl : -1048576 ≤ cx) (cxu : cx ≤ 1048576) (cyl : -1048576 ≤ cy) (cyu : cy ≤ 1048576) (dxl : -1048576 ≤ dx) (dxu : dx ≤ 1048576) (dyl : -1048576 ≤ dy) (dyu : dy ≤ 1048576) (g0 : Sp.addb [] ax ay cx cy dx dy = false) (g1 : Sp.addb [] bx b_y cx cy dx dy = true) (g2 : Sp.addb [(bx, b_y)] cx cy ax ay bx b_y = true) (g3 : Sp.addb [(bx, b_y), (cx, cy)] dx dy ax ay bx b_y = true) :
    AC Try.prog 97 0 ([.agg #[.int .i64 ax, .int .i64 ay], .agg #[.int .i64 bx, .int .i64 b_y], .agg #[.int .i64 cx, .int .i64 cy], .agg #[.int .i64 dx, .int .i64 dy]]) [] (.slice (some ⟨0, 0, none⟩) 3 0) [(0, ⟨[.int .i64 bx, .int .i64 b_y, .int .i64 cx, .int .i64 cy, .int .i64 dx, .int .i64 dy], 29, true, 2⟩)] := by
  refine ac_in Try.func97 (fun w0 W pin => ?_)
  refine aw_p 3 (
    .a 5 1 <| .nil _ _) ?_
  refine aw_p 7 (
    .a 1 5 <| .nil _ _) ?_
  refine aw_p 15 (
    .a 2 6 <| .nil _ _) ?_
  refine aw_p 31 (
    .a 4 6 <| .p (does_k [5] (shadd0S ax ay cx cy dx dy (by omega) (by omega) (by omega) (by omega) (by omega) (by omega) (by omega) (by omega) (by omega) (by omega) (by omega) (by omega) g0)) <| .nil _ _) ?_
  refine aw_p 63 (
    .a 4 6 <| .p (does_k [5, 6] (shadd0A bx b_y cx cy dx dy (by omega) (by omega) (by omega) (by omega) (by omega) (by omega) (by omega) (by omega) (by omega) (by omega) (by omega) (by omega) g1)) <| .nil _ _) ?_
  refine aw_p 127 (
    .a 4 7 <| .p (does_k [5, 6, 7] (shadd1A bx b_y cx cy ax ay bx b_y (by omega) (by omega) (by omega) (by omega) (by omega) (by omega) (by omega) (by omega) (by omega) (by omega) (by omega) (by omega) g2)) <| .nil _ _) ?_
  refine aw_p 255 (
    .a 4 8 <| .p (does_k [5, 7, 0] (shadd2A bx b_y cx cy dx dy ax ay bx b_y (by omega) (by omega) (by omega) (by omega) (by omega) (by omega) (by omega) (by omega) (by omega) (by omega) (by omega) (by omega) g3)) <| .nil _ _) ?_
  refine aw_p 511 (
    .a 2 8 <| .nil _ _) ?_
  refine aw_rt ?_
  exact en_ret [.slice (some ⟨0, 0, none⟩) 3 0] (by kernel_rfl)
theorem shared1000 (ax ay bx b_y cx cy dx dy : Int) (axl : -1048576 ≤ ax) (axu : ax ≤ 1048576) (ayl : -1048576 ≤ ay) (ayu : ay ≤ 1048576) (bxl : -1048576 ≤ bx) (bxu : bx ≤ 1048576) (b_yl : -1048576 ≤ b_y) (b_yu : b_y ≤ 1048576) (cxl : -1048576 ≤ cx) (cxu : cx ≤ 1048576) (cyl : -1048576 ≤ cy) (cyu : cy ≤ 1048576) (dxl : -1048576 ≤ dx) (dxu : dx ≤ 1048576) (dyl : -1048576 ≤ dy) (dyu : dy ≤ 1048576) (g0 : Sp.addb [] ax ay cx cy dx dy = true) (g1 : Sp.addb [(ax, ay)] bx b_y cx cy dx dy = false) (g2 : Sp.addb [(ax, ay)] cx cy ax ay bx b_y = false) (g3 : Sp.addb [(ax, ay)] dx dy ax ay bx b_y = false) :
    AC Try.prog 97 0 ([.agg #[.int .i64 ax, .int .i64 ay], .agg #[.int .i64 bx, .int .i64 b_y], .agg #[.int .i64 cx, .int .i64 cy], .agg #[.int .i64 dx, .int .i64 dy]]) [] (.slice (some ⟨0, 0, none⟩) 1 0) [(0, ⟨[.int .i64 ax, .int .i64 ay], 29, true, 2⟩)] := by
  refine ac_in Try.func97 (fun w0 W pin => ?_)
  refine aw_p 3 (
    .a 5 1 <| .nil _ _) ?_
  refine aw_p 7 (
    .a 1 5 <| .nil _ _) ?_
  refine aw_p 15 (
    .a 2 6 <| .nil _ _) ?_
  refine aw_p 31 (
    .a 4 6 <| .p (does_k [5, 0] (shadd0A ax ay cx cy dx dy (by omega) (by omega) (by omega) (by omega) (by omega) (by omega) (by omega) (by omega) (by omega) (by omega) (by omega) (by omega) g0)) <| .nil _ _) ?_
  refine aw_p 63 (
    .a 4 6 <| .p (does_k [5, 0] (shadd1S ax ay bx b_y cx cy dx dy (by omega) (by omega) (by omega) (by omega) (by omega) (by omega) (by omega) (by omega) (by omega) (by omega) (by omega) (by omega) g1)) <| .nil _ _) ?_
  refine aw_p 127 (
    .a 4 6 <| .p (does_k [5, 0] (shadd1S ax ay cx cy ax ay bx b_y (by omega) (by omega) (by omega) (by omega) (by omega) (by omega) (by omega) (by omega) (by omega) (by omega) (by omega) (by omega) g2)) <| .nil _ _) ?_
  refine aw_p 255 (
    .a 4 6 <| .p (does_k [5, 0] (shadd1S ax ay dx dy ax ay bx b_y (by omega) (by omega) (by omega) (by omega) (by omega) (by omega) (by omega) (by omega) (by omega) (by omega) (by omega) (by omega) g3)) <| .nil _ _) ?_
  refine aw_p 511 (
    .a 2 6 <| .nil _ _) ?_
  refine aw_rt ?_
  exact en_ret [.slice (some ⟨0, 0, none⟩) 1 0] (by kernel_rfl)
theorem shared1001 (ax ay bx b_y cx cy dx dy : Int) (axl : -1048576 ≤ ax) (axu : ax ≤ 1048576) (ayl : -1048576 ≤ ay) (ayu : ay ≤ 1048576) (bxl : -1048576 ≤ bx) (bxu : bx ≤ 1048576) (b_yl : -1048576 ≤ b_y) (b_yu : b_y ≤ 1048576) (cxl : -1048576 ≤ cx) (cxu : cx ≤ 1048576) (cyl : -1048576 ≤ cy) (cyu : cy ≤ 1048576) (dxl : -1048576 ≤ dx) (dxu : dx ≤ 1048576) (dyl : -1048576 ≤ dy) (dyu : dy ≤ 1048576) (g0 : Sp.addb [] ax ay cx cy dx dy = true) (g1 : Sp.addb [(ax, ay)] bx b_y cx cy dx dy = false) (g2 : Sp.addb [(ax, ay)] cx cy ax ay bx b_y = false) (g3 : Sp.addb [(ax, ay)] dx dy ax ay bx b_y = true) :
    AC Try.prog 97 0 ([.agg #[.int .i64 ax, .int .i64 ay], .agg #[.int .i64 bx, .int .i64 b_y], .agg #[.int .i64 cx, .int .i64 cy], .agg #[.int .i64 dx, .int .i64 dy]]) [] (.slice (some ⟨0, 0, none⟩) 2 0) [(0, ⟨[.int .i64 ax, .int .i64 ay, .int .i64 dx, .int .i64 dy], 29, true, 2⟩)] := by
  refine ac_in Try.func97 (fun w0 W pin => ?_)
  refine aw_p 3 (
    .a 5 1 <| .nil _ _) ?_
  refine aw_p 7 (
    .a 1 5 <| .nil _ _) ?_
  refine aw_p 15 (
    .a 2 6 <| .nil _ _) ?_
  refine aw_p 31 (
    .a 4 6 <| .p (does_k [5, 6] (shadd0A ax ay cx cy dx dy (by omega) (by omega) (by omega) (by omega) (by omega) (by omega) (by omega) (by omega) (by omega) (by omega) (by omega) (by omega) g0)) <| .nil _ _) ?_
  refine aw_p 63 (
    .a 4 7 <| .p (does_k [5, 6] (shadd1S ax ay bx b_y cx cy dx dy (by omega) (by omega) (by omega) (by omega) (by omega) (by omega) (by omega) (by omega) (by omega) (by omega) (by omega) (by omega) g1)) <| .nil _ _) ?_
  refine aw_p 127 (
    .a 4 7 <| .p (does_k [5, 6] (shadd1S ax ay cx cy ax ay bx b_y (by omega) (by omega) (by omega) (by omega) (by omega) (by omega) (by omega) (by omega) (by omega) (by omega) (by omega) (by omega) g2)) <| .nil _ _) ?_
  refine aw_p 255 (
    .a 4 7 <| .p (does_k [5, 6, 0] (shadd1A ax ay dx dy ax ay bx b_y (by omega) (by omega) (by omega) (by omega) (by omega) (by omega) (by omega) (by omega) (by omega) (by omega) (by omega) (by omega) g3)) <| .nil _ _) ?_
  refine aw_p 511 (
    .a 2 7 <| .nil _ _) ?_
  refine aw_rt ?_
  exact en_ret [.slice (some ⟨0, 0, none⟩) 2 0] (by kernel_rfl)
theorem shared1010 (ax ay bx b_y cx cy dx dy : Int) (axl : -1048576 ≤ ax) (axu : ax ≤ 1048576) (ayl : -1048576 ≤ ay) (ayu : ay ≤ 1048576) (bxl : -1048576 ≤ bx) (bxu : bx ≤ 1048576) (b_yl : -1048576 ≤ b_y) (b_yu : b_y ≤ 1048576) (cxl : -1048576 ≤ cx) (cxu : cx ≤ 1048576) (cyl : -1048576 ≤ cy) (cyu : cy ≤ 1048576) (dxl : -1048576 ≤ dx) (dxu : dx ≤ 1048576) (dyl : -1048576 ≤ dy) (dyu : dy ≤ 1048576) (g0 : Sp.addb [] ax ay cx cy dx dy = true) (g1 : Sp.addb [(ax, ay)] bx b_y cx cy dx dy = false) (g2 : Sp.addb [(ax, ay)] cx cy ax ay bx b_y = true) (g3 : Sp.addb [(ax, ay), (cx, cy)] dx dy ax ay bx b_y = false) :
    AC Try.prog 97 0 ([.agg #[.int .i64 ax, .int .i64 ay], .agg #[.int .i64 bx, .int .i64 b_y], .agg #[.int .i64 cx, .int .i64 cy], .agg #[.int .i64 dx, .int .i64 dy]]) [] (.slice (some ⟨0, 0, none⟩) 2 0) [(0, ⟨[.int .i64 ax, .int .i64 ay, .int .i64 cx, .int .i64 cy], 29, true, 2⟩)] := by
  refine ac_in Try.func97 (fun w0 W pin => ?_)
  refine aw_p 3 (
    .a 5 1 <| .nil _ _) ?_
  refine aw_p 7 (
    .a 1 5 <| .nil _ _) ?_
  refine aw_p 15 (
    .a 2 6 <| .nil _ _) ?_
  refine aw_p 31 (
    .a 4 6 <| .p (does_k [5, 6] (shadd0A ax ay cx cy dx dy (by omega) (by omega) (by omega) (by omega) (by omega) (by omega) (by omega) (by omega) (by omega) (by omega) (by omega) (by omega) g0)) <| .nil _ _) ?_
  refine aw_p 63 (
    .a 4 7 <| .p (does_k [5, 6] (shadd1S ax ay bx b_y cx cy dx dy (by omega) (by omega) (by omega) (by omega) (by omega) (by omega) (by omega) (by omega) (by omega) (by omega) (by omega) (by omega) g1)) <| .nil _ _) ?_
  refine aw_p 127 (
    .a 4 7 <| .p (does_k [5, 6, 0] (shadd1A ax ay cx cy ax ay bx b_y (by omega) (by omega) (by omega) (by omega) (by omega) (by omega) (by omega) (by omega) (by omega) (by omega) (by omega) (by omega) g2)) <| .nil _ _) ?_
  refine aw_p 255 (
    .a 4 7 <| .p (does_k [5, 0] (shadd2S ax ay cx cy dx dy ax ay bx b_y (by omega) (by omega) (by omega) (by omega) (by omega) (by omega) (by omega) (by omega) (by omega) (by omega) (by omega) (by omega) g3)) <| .nil _ _) ?_
  refine aw_p 511 (
    .a 2 7 <| .nil _ _) ?_
  refine aw_rt ?_
  exact en_ret [.slice (some ⟨0, 0, none⟩) 2 0] (by kernel_rfl)
theorem shared1011 (ax ay bx b_y cx cy dx dy : Int) (axl : -1048576 ≤ ax) (axu : ax ≤ 1048576) (ayl : -1048576 ≤ ay) (ayu : ay ≤ 1048576) (bxl : -1048576 ≤ bx) (bxu : bx ≤ 1048576) (b_yl : -1048576 ≤ b_y) (b_yu : b_y ≤ 1048576) (cxl : -1048576 ≤ cx) (cxu : cx ≤ 1048576) (cyl : -1048576 ≤ cy) (cyu : cy ≤ 1048576) (dxl : -1048576 ≤ dx) (dxu : dx ≤ 1048576) (dyl : -1048576 ≤ dy) (dyu : dy ≤ 1048576) (g0 : Sp.addb [] ax ay cx cy dx dy = true) (g1 : Sp.addb [(ax, ay)] bx b_y cx cy dx dy = false) (g2 : Sp.addb [(ax, ay)] cx cy ax ay bx b_y = true) (g3 : Sp.addb [(ax, ay), (cx, cy)] dx dy ax ay bx b_y = true) :
    AC Try.prog 97 0 ([.agg #[.int .i64 ax, .int .i64 ay], .agg #[.int .i64 bx, .int .i64 b_y], .agg #[.int .i64 cx, .int .i64 cy], .agg #[.int .i64 dx, .int .i64 dy]]) [] (.slice (some ⟨0, 0, none⟩) 3 0) [(0, ⟨[.int .i64 ax, .int .i64 ay, .int .i64 cx, .int .i64 cy, .int .i64 dx, .int .i64 dy], 29, true, 2⟩)] := by
  refine ac_in Try.func97 (fun w0 W pin => ?_)
  refine aw_p 3 (
    .a 5 1 <| .nil _ _) ?_
  refine aw_p 7 (
    .a 1 5 <| .nil _ _) ?_
  refine aw_p 15 (
    .a 2 6 <| .nil _ _) ?_
  refine aw_p 31 (
    .a 4 6 <| .p (does_k [5, 6] (shadd0A ax ay cx cy dx dy (by omega) (by omega) (by omega) (by omega) (by omega) (by omega) (by omega) (by omega) (by omega) (by omega) (by omega) (by omega) g0)) <| .nil _ _) ?_
  refine aw_p 63 (
    .a 4 7 <| .p (does_k [5, 6] (shadd1S ax ay bx b_y cx cy dx dy (by omega) (by omega) (by omega) (by omega) (by omega) (by omega) (by omega) (by omega) (by omega) (by omega) (by omega) (by omega) g1)) <| .nil _ _) ?_
  refine aw_p 127 (
    .a 4 7 <| .p (does_k [5, 6, 7] (shadd1A ax ay cx cy ax ay bx b_y (by omega) (by omega) (by omega) (by omega) (by omega) (by omega) (by omega) (by omega) (by omega) (by omega) (by omega) (by omega) g2)) <| .nil _ _) ?_
  refine aw_p 255 (
    .a 4 8 <| .p (does_k [5, 7, 0] (shadd2A ax ay cx cy dx dy ax ay bx b_y (by omega) (by omega) (by omega) (by omega) (by omega) (by omega) (by omega) (by omega) (by omega) (by omega) (by omega) (by omega) g3)) <| .nil _ _) ?_
  refine aw_p 511 (
    .a 2 8 <| .nil _ _) ?_
  refine aw_rt ?_
  exact en_ret [.slice (some ⟨0, 0, none⟩) 3 0] (by kernel_rfl)
theorem shared1100 (ax ay bx b_y cx cy dx dy : Int) (axl : -1048576 ≤ ax) (axu : ax ≤ 1048576) (ayl : -1048576 ≤ ay) (ayu : ay ≤ 1048576) (bxl : -1048576 ≤ bx) (bxu : bx ≤ 1048576) (b_yl : -1048576 ≤ b_y) (b_yu : b_y ≤ 1048576) (cxl : -1048576 ≤ cx) (cxu : cx ≤ 1048576) (cyl : -1048576 ≤ cy) (cyu : cy ≤ 1048576) (dxl : -1048576 ≤ dx) (dxu : dx ≤ 1048576) (dyl : -1048576 ≤ dy) (dyu : dy ≤ 1048576) (g0 : Sp.addb [] ax ay cx cy dx dy = true) (g1 : Sp.addb [(ax, ay)] bx b_y cx cy dx dy = true) (g2 : Sp.addb [(ax, ay), (bx, b_y)] cx cy ax ay bx b_y = false) (g3 : Sp.addb [(ax, ay), (bx, b_y)] dx dy ax ay bx b_y = false) :
    AC Try.prog 97 0 ([.agg #[.int .i64 ax, .int .i64 ay], .agg #[.int .i64 bx, .int .i64 b_y], .agg #[.int .i64 cx, .int .i64 cy], .agg #[.int .i64 dx, .int .i64 dy]]) [] (.slice (some ⟨0, 0, none⟩) 2 0) [(0, ⟨[.int .i64 ax, .int .i64 ay, .int .i64 bx, .int .i64 b_y], 29, true, 2⟩)] := by
  refine ac_in Try.func97 (fun w0 W pin => ?_)
  refine aw_p 3 (
    .a 5 1 <| .nil _ _) ?_
  refine aw_p 7 (
    .a 1 5 <| .nil _ _) ?_
  refine aw_p 15 (
    .a 2 6 <| .nil _ _) ?_
  refine aw_p 31 (
    .a 4 6 <| .p (does_k [5, 6] (shadd0A ax ay cx cy dx dy (by omega) (by omega) (by omega) (by omega) (by omega) (by omega) (by omega) (by omega) (by omega) (by omega) (by omega) (by omega) g0)) <| .nil _ _) ?_
  refine aw_p 63 (
    .a 4 7 <| .p (does_k [5, 6, 0] (shadd1A ax ay bx b_y cx cy dx dy (by omega) (by omega) (by omega) (by omega) (by omega) (by omega) (by omega) (by omega) (by omega) (by omega) (by omega) (by omega) g1)) <| .nil _ _) ?_
  refine aw_p 127 (
    .a 4 7 <| .p (does_k [5, 0] (shadd2S ax ay bx b_y cx cy ax ay bx b_y (by omega) (by omega) (by omega) (by omega) (by omega) (by omega) (by omega) (by omega) (by omega) (by omega) (by omega) (by omega) g2)) <| .nil _ _) ?_
  refine aw_p 255 (
    .a 4 7 <| .p (does_k [5, 0] (shadd2S ax ay bx b_y dx dy ax ay bx b_y (by omega) (by omega) (by omega) (by omega) (by omega) (by omega) (by omega) (by omega) (by omega) (by omega) (by omega) (by omega) g3)) <| .nil _ _) ?_
  refine aw_p 511 (
    .a 2 7 <| .nil _ _) ?_
  refine aw_rt ?_
  exact en_ret [.slice (some ⟨0, 0, none⟩) 2 0] (by kernel_rfl)
theorem shared1101 (ax ay bx b_y cx cy dx dy : Int) (axl : -1048576 ≤ ax) (axu : ax ≤ 1048576) (ayl : -1048576 ≤ ay) (ayu : ay ≤ 1048576) (bxl : -1048576 ≤ bx) (bxu : bx ≤ 1048576) (b_yl : -1048576 ≤ b_y) (b_yu : b_y ≤ 1048576) (cxl : -1048576 ≤ cx) (cxu : cx ≤ 1048576) (cyl : -1048576 ≤ cy) (cyu : cy ≤ 1048576) (dxl : -1048576 ≤ dx) (dxu : dx ≤ 1048576) (dyl : -1048576 ≤ dy) (dyu : dy ≤ 1048576) (g0 : Sp.addb [] ax ay cx cy dx dy = true) (g1 : Sp.addb [(ax, ay)] bx b_y cx cy dx dy = true) (g2 : Sp.addb [(ax, ay), (bx, b_y)] cx cy ax ay bx b_y = false) (g3 : Sp.addb [(ax, ay), (bx, b_y)] dx dy ax ay bx b_y = true) :
    AC Try.prog 97 0 ([.agg #[.int .i64 ax, .int .i64 ay], .agg #[.int .i64 bx, .int .i64 b_y], .agg #[.int .i64 cx, .int .i64 cy], .agg #[.int .i64 dx, .int .i64 dy]]) [] (.slice (some ⟨0, 0, none⟩) 3 0) [(0, ⟨[.int .i64 ax, .int .i64 ay, .int .i64 bx, .int .i64 b_y, .int .i64 dx, .int .i64 dy], 29, true, 2⟩)] := by
  refine ac_in Try.func97 (fun w0 W pin => ?_)
  refine aw_p 3 (
    .a 5 1 <| .nil _ _) ?_
  refine aw_p 7 (
    .a 1 5 <| .nil _ _) ?_
  refine aw_p 15 (
    .a 2 6 <| .nil _ _) ?_
  refine aw_p 31 (
    .a 4 6 <| .p (does_k [5, 6] (shadd0A ax ay cx cy dx dy (by omega) (by omega) (by omega) (by omega) (by omega) (by omega) (by omega) (by omega) (by omega) (by omega) (by omega) (by omega) g0)) <| .nil _ _) ?_
  refine aw_p 63 (
    .a 4 7 <| .p (does_k [5, 6, 7] (shadd1A ax ay bx b_y cx cy dx dy (by omega) (by omega) (by omega) (by omega) (by omega) (by omega) (by omega) (by omega) (by omega) (by omega) (by omega) (by omega) g1)) <| .nil _ _) ?_
  refine aw_p 127 (
    .a 4 8 <| .p (does_k [5, 7] (shadd2S ax ay bx b_y cx cy ax ay bx b_y (by omega) (by omega) (by omega) (by omega) (by omega) (by omega) (by omega) (by omega) (by omega) (by omega) (by omega) (by omega) g2)) <| .nil _ _) ?_
  refine aw_p 255 (
    .a 4 8 <| .p (does_k [5, 7, 0] (shadd2A ax ay bx b_y dx dy ax ay bx b_y (by omega) (by omega) (by omega) (by omega) (by omega) (by omega) (by omega) (by omega) (by omega) (by omega) (by omega) (by omega) g3)) <| .nil _ _) ?_
  refine aw_p 511 (
    .a 2 8 <| .nil _ _) ?_
  refine aw_rt ?_
  exact en_ret [.slice (some ⟨0, 0, none⟩) 3 0] (by kernel_rfl)
theorem shared1110 (ax ay bx b_y cx cy dx dy : Int) (axl : -1048576 ≤ ax) (axu : ax ≤ 1048576) (ayl : -1048576 ≤ ay) (ayu : ay ≤ 1048576) (bxl : -1048576 ≤ bx) (bxu : bx ≤ 1048576) (b_yl : -1048576 ≤ b_y) (b_yu : b_y ≤ 1048576) (cxl : -1048576 ≤ cx) (cxu : cx ≤ 1048576) (cyl : -1048576 ≤ cy) (cyu : cy ≤ 1048576) (dxl : -1048576 ≤ dx) (dxu : dx ≤ 1048576) (dyl : -1048576 ≤ dy) (dyu : dy ≤ 1048576) (g0 : Sp.addb [] ax ay cx cy dx dy = true) (g1 : Sp.addb [(ax, ay)] bx b_y cx cy dx dy = true) (g2 : Sp.addb [(ax, ay), (bx, b_y)] cx cy ax ay bx b_y = true) (g3 : Sp.addb [(ax, ay), (bx, b_y), (cx, cy)] dx dy ax ay bx b_y = false) :
    AC Try.prog 97 0 ([.agg #[.int .i64 ax, .int .i64 ay], .agg #[.int .i64 bx, .int .i64 b_y], .agg #[.int .i64 cx, .int .i64 cy], .agg #[.int .i64 dx, .int .i64 dy]]) [] (.slice (some ⟨0, 0, none⟩) 3 0) [(0, ⟨[.int .i64 ax, .int .i64 ay, .int .i64 bx, .int .i64 b_y, .int .i64 cx, .int .i64 cy], 29, true, 2⟩)] := by
  refine ac_in Try.func97 (fun w0 W pin => ?_)
  refine aw_p 3 (
    .a 5 1 <| .nil _ _) ?_
  refine aw_p 7 (
    .a 1 5 <| .nil _ _) ?_
  refine aw_p 15 (
    .a 2 6 <| .nil _ _) ?_
  refine aw_p 31 (
    .a 4 6 <| .p (does_k [5, 6] (shadd0A ax ay cx cy dx dy (by omega) (by omega) (by omega) (by omega) (by omega) (by omega) (by omega) (by omega) (by omega) (by omega) (by omega) (by omega) g0)) <| .nil _ _) ?_
  refine aw_p 63 (
    .a 4 7 <| .p (does_k [5, 6, 7] (shadd1A ax ay bx b_y cx cy dx dy (by omega) (by omega) (by omega) (by omega) (by omega) (by omega) (by omega) (by omega) (by omega) (by omega) (by omega) (by omega) g1)) <| .nil _ _) ?_
  refine aw_p 127 (
    .a 4 8 <| .p (does_k [5, 7, 0] (shadd2A ax ay bx b_y cx cy ax ay bx b_y (by omega) (by omega) (by omega) (by omega) (by omega) (by omega) (by omega) (by omega) (by omega) (by omega) (by omega) (by omega) g2)) <| .nil _ _) ?_
  refine aw_p 255 (
    .a 4 8 <| .p (does_k [5, 0] (shadd3S ax ay bx b_y cx cy dx dy ax ay bx b_y (by omega) (by omega) (by omega) (by omega) (by omega) (by omega) (by omega) (by omega) (by omega) (by omega) (by omega) (by omega) g3)) <| .nil _ _) ?_
  refine aw_p 511 (
    .a 2 8 <| .nil _ _) ?_
  refine aw_rt ?_
  exact en_ret [.slice (some ⟨0, 0, none⟩) 3 0] (by kernel_rfl)
theorem shared1111 (ax ay bx b_y cx cy dx dy : Int) (axl : -1048576 ≤ ax) (axu : ax ≤ 1048576) (ayl : -1048576 ≤ ay) (ayu : ay ≤ 1048576) (bxl : -1048576 ≤ bx) (bxu : bx ≤ 1048576) (b_yl : -1048576 ≤ b_y) (b_yu : b_y ≤ 1048576) (cxl : -1048576 ≤ cx) (cxu : cx ≤ 1048576) (cyl : -1048576 ≤ cy) (cyu : cy ≤ 1048576) (dxl : -1048576 ≤ dx) (dxu : dx ≤ 1048576) (dyl : -1048576 ≤ dy) (dyu : dy ≤ 1048576) (g0 : Sp.addb [] ax ay cx cy dx dy = true) (g1 : Sp.addb [(ax, ay)] bx b_y cx cy dx dy = true) (g2 : Sp.addb [(ax, ay), (bx, b_y)] cx cy ax ay bx b_y = true) (g3 : Sp.addb [(ax, ay), (bx, b_y), (cx, cy)] dx dy ax ay bx b_y = true) :
    AC Try.prog 97 0 ([.agg #[.int .i64 ax, .int .i64 ay], .agg #[.int .i64 bx, .int .i64 b_y], .agg #[.int .i64 cx, .int .i64 cy], .agg #[.int .i64 dx, .int .i64 dy]]) [] (.slice (some ⟨0, 0, none⟩) 4 0) [(0, ⟨[.int .i64 ax, .int .i64 ay, .int .i64 bx, .int .i64 b_y, .int .i64 cx, .int .i64 cy, .int .i64 dx, .int .i64 dy], 29, true, 2⟩)] := by
  refine ac_in Try.func97 (fun w0 W pin => ?_)
  refine aw_p 3 (
    .a 5 1 <| .nil _ _) ?_
  refine aw_p 7 (
    .a 1 5 <| .nil _ _) ?_
  refine aw_p 15 (
    .a 2 6 <| .nil _ _) ?_
  refine aw_p 31 (
    .a 4 6 <| .p (does_k [5, 6] (shadd0A ax ay cx cy dx dy (by omega) (by omega) (by omega) (by omega) (by omega) (by omega) (by omega) (by omega) (by omega) (by omega) (by omega) (by omega) g0)) <| .nil _ _) ?_
  refine aw_p 63 (
    .a 4 7 <| .p (does_k [5, 6, 7] (shadd1A ax ay bx b_y cx cy dx dy (by omega) (by omega) (by omega) (by omega) (by omega) (by omega) (by omega) (by omega) (by omega) (by omega) (by omega) (by omega) g1)) <| .nil _ _) ?_
  refine aw_p 127 (
    .a 4 8 <| .p (does_k [5, 7, 8] (shadd2A ax ay bx b_y cx cy ax ay bx b_y (by omega) (by omega) (by omega) (by omega) (by omega) (by omega) (by omega) (by omega) (by omega) (by omega) (by omega) (by omega) g2)) <| .nil _ _) ?_
  refine aw_p 255 (
    .a 4 9 <| .p (does_k [5, 8, 0] (shadd3A ax ay bx b_y cx cy dx dy ax ay bx b_y (by omega) (by omega) (by omega) (by omega) (by omega) (by omega) (by omega) (by omega) (by omega) (by omega) (by omega) (by omega) g3)) <| .nil _ _) ?_
  refine aw_p 511 (
    .a 2 9 <| .nil _ _) ?_
  refine aw_rt ?_
  exact en_ret [.slice (some ⟨0, 0, none⟩) 4 0] (by kernel_rfl)
end Go.Proofs.Ytadifmimefmcnaa.Am

namespace Go.Proofs.Ytadifmimefmcnaa.Am
open Go Go.Proofs
set_option maxRecDepth 100000
set_option maxHeartbeats 4000000
set_option linter.unusedVariables false
set_option linter.unusedSimpArgs false
theorem segmeet_any (ax ay bx b_y cx cy dx dy : Int) :
    AC Try.prog 96 0 ([.agg #[.int .i64 ax, .int .i64 ay], .agg #[.int .i64 bx, .int .i64 b_y], .agg #[.int .i64 cx, .int .i64 cy], .agg #[.int .i64 dx, .int .i64 dy]]) [] (.int .i64 (Sp.meetN (Sp.lim 1048576 ax) (Sp.lim 1048576 ay) (Sp.lim 1048576 bx) (Sp.lim 1048576 b_y) (Sp.lim 1048576 cx) (Sp.lim 1048576 cy) (Sp.lim 1048576 dx) (Sp.lim 1048576 dy))) [] := by
  have qax := Sp.lim_bd (m := 1048576) (by decide) ax; have qay := Sp.lim_bd (m := 1048576) (by decide) ay; have qbx := Sp.lim_bd (m := 1048576) (by decide) bx; have qb_y := Sp.lim_bd (m := 1048576) (by decide) b_y; have qcx := Sp.lim_bd (m := 1048576) (by decide) cx; have qcy := Sp.lim_bd (m := 1048576) (by decide) cy; have qdx := Sp.lim_bd (m := 1048576) (by decide) dx; have qdy := Sp.lim_bd (m := 1048576) (by decide) dy; have c0 := clamp_ok ax ay; have c1 := clamp_ok bx b_y; have c2 := clamp_ok cx cy; have c3 := clamp_ok dx dy; generalize Sp.lim 1048576 ax = AX at *; generalize Sp.lim 1048576 ay = AY at *; generalize Sp.lim 1048576 bx = BX at *; generalize Sp.lim 1048576 b_y = B_Y at *; generalize Sp.lim 1048576 cx = CX at *; generalize Sp.lim 1048576 cy = CY at *; generalize Sp.lim 1048576 dx = DX at *; generalize Sp.lim 1048576 dy = DY at *; have cm := Sp.cmp3 AX AY BX B_Y CX CY DX DY
  refine ac_in Try.func96 (fun w0 W pin => ?_)
  refine aw_p 3 (
    .a 5 1 <| .nil _ _) ?_
  refine aw_d 7 (
    .a 1 5 <| .p (does_c (c0)) <| .a 1 5 <| .p (does_c (c1)) <| .a 1 5 <| .p (does_c (c2)) <| .a 1 5 <| .p (does_c (c3)) <| .a 4 5 <| .nil _ _) ?_
  refine aw_sq 14 15 ?_
  rcases Bool.eq_false_or_eq_true (decide (((Sp.cmp (Sp.crs AX AY BX B_Y CX CY) 0) * (Sp.cmp (Sp.crs AX AY BX B_Y DX DY) 0)) < 0)) with h1 | h1
  · have h1p : ((((Sp.cmp (Sp.crs AX AY BX B_Y CX CY) 0) * (Sp.cmp (Sp.crs AX AY BX B_Y DX DY) 0)) < 0)) := by first | (simpa using h1) | (have h1q := h1; simp at h1q; omega) | (have h1q := bx1 h1; simp at h1q; omega)
    refine aw_d 29 (
      .a 3 5 <| .p (does_c (turn_in AX AY BX B_Y CX CY (by omega) (by omega) (by omega) (by omega) (by omega) (by omega) (by omega) (by omega) (by omega) (by omega) (by omega) (by omega))) <| .a 3 5 <|
      .p (does_c (turn_in AX AY BX B_Y DX DY (by omega) (by omega) (by omega) (by omega) (by omega) (by omega) (by omega) (by omega) (by omega) (by omega) (by omega) (by omega))) <|
      .p (does_i ((Sp.cmp (Sp.crs AX AY BX B_Y CX CY) 0) * (Sp.cmp (Sp.crs AX AY BX B_Y DX DY) 0)) (wrap_i64 (by omega) (by omega)) .i64) <| .p (does_b true (h1)) <| .a 4 5 <|
      .p (does_c (turn_in CX CY DX DY AX AY (by omega) (by omega) (by omega) (by omega) (by omega) (by omega) (by omega) (by omega) (by omega) (by omega) (by omega) (by omega))) <| .a 3 5 <|
      .p (does_c (turn_in CX CY DX DY BX B_Y (by omega) (by omega) (by omega) (by omega) (by omega) (by omega) (by omega) (by omega) (by omega) (by omega) (by omega) (by omega))) <|
      .p (does_i ((Sp.cmp (Sp.crs CX CY DX DY AX AY) 0) * (Sp.cmp (Sp.crs CX CY DX DY BX B_Y) 0)) (wrap_i64 (by omega) (by omega)) .i64) <| .a 2 5 <| .nil _ _) ?_
    refine aw_cd 58 59 (decide (((Sp.cmp (Sp.crs CX CY DX DY AX AY) 0) * (Sp.cmp (Sp.crs CX CY DX DY BX B_Y) 0)) < 0)) (fun h2 => ?_) (fun h2 => ?_)
    · have h2p : ((((Sp.cmp (Sp.crs CX CY DX DY AX AY) 0) * (Sp.cmp (Sp.crs CX CY DX DY BX B_Y) 0)) < 0)) := by first | (simpa using h2) | (have h2q := h2; simp at h2q; omega) | (have h2q := bx1 h2; simp at h2q; omega)
      refine aw_p 117 (
        .a 1 5 <| .nil _ _) ?_
      refine aw_rt ?_
      refine then_ret ?_
      exact en_ret [.int .i64 1] (show (.int .i64 1 : Value) = (.int .i64 (Sp.meetN AX AY BX B_Y CX CY DX DY)) from (congrArg (Value.int .i64) (show 1 = (Sp.meetN AX AY BX B_Y CX CY DX DY) from by exact (if_pos (show Sp.prp AX AY BX B_Y CX CY DX DY = true from by simp [Sp.prp, *])).symm)))
    · have h2p : ¬ ((((Sp.cmp (Sp.crs CX CY DX DY AX AY) 0) * (Sp.cmp (Sp.crs CX CY DX DY BX B_Y) 0)) < 0)) := by first | (simpa using h2) | (have h2q := h2; simp at h2q; omega) | (have h2q := bx2 h2; simp at h2q; omega)
      refine aw_sk ?_
      refine then_normal ?_
      rcases Bool.eq_false_or_eq_true (Sp.addb [] AX AY CX CY DX DY) with h3 | h3
      · rcases Bool.eq_false_or_eq_true (Sp.addb [(AX, AY)] BX B_Y CX CY DX DY) with h4 | h4
        · rcases Bool.eq_false_or_eq_true (Sp.addb [(AX, AY), (BX, B_Y)] CX CY AX AY BX B_Y) with h5 | h5
          · rcases Bool.eq_false_or_eq_true (Sp.addb [(AX, AY), (BX, B_Y), (CX, CY)] DX DY AX AY BX B_Y) with h6 | h6
            · refine aw_p 31 (
                .a 4 5 <| .p (does_k [5] (shared1111 AX AY BX B_Y CX CY DX DY (by omega) (by omega) (by omega) (by omega) (by omega) (by omega) (by omega) (by omega) (by omega) (by omega) (by omega) (by omega) (by omega) (by omega) (by omega) (by omega) h3 h4 h5 h6)) <| .a 3 6 <| .nil _ _) ?_
              refine aw_rt ?_
              exact en_ret [.int .i64 2] (show (.int .i64 2 : Value) = (.int .i64 (Sp.meetN AX AY BX B_Y CX CY DX DY)) from (congrArg (Value.int .i64) (show 2 = (Sp.meetN AX AY BX B_Y CX CY DX DY) from by (unfold Sp.meetN; rw [if_neg (show ¬ Sp.prp AX AY BX B_Y CX CY DX DY = true from by simp [Sp.prp, *])]; unfold Sp.shr; rw [(show Sp.addp [] AX AY CX CY DX DY = [(AX, AY)] from Sp.addp_y h3), (show Sp.addp [(AX, AY)] BX B_Y CX CY DX DY = [(AX, AY), (BX, B_Y)] from Sp.addp_y h4), (show Sp.addp [(AX, AY), (BX, B_Y)] CX CY AX AY BX B_Y = [(AX, AY), (BX, B_Y), (CX, CY)] from Sp.addp_y h5), (show Sp.addp [(AX, AY), (BX, B_Y), (CX, CY)] DX DY AX AY BX B_Y = [(AX, AY), (BX, B_Y), (CX, CY), (DX, DY)] from Sp.addp_y h6)]; rfl))))
            · refine aw_p 31 (
                .a 4 5 <| .p (does_k [5] (shared1110 AX AY BX B_Y CX CY DX DY (by omega) (by omega) (by omega) (by omega) (by omega) (by omega) (by omega) (by omega) (by omega) (by omega) (by omega) (by omega) (by omega) (by omega) (by omega) (by omega) h3 h4 h5 h6)) <| .a 3 6 <| .nil _ _) ?_
              refine aw_rt ?_
              exact en_ret [.int .i64 2] (show (.int .i64 2 : Value) = (.int .i64 (Sp.meetN AX AY BX B_Y CX CY DX DY)) from (congrArg (Value.int .i64) (show 2 = (Sp.meetN AX AY BX B_Y CX CY DX DY) from by (unfold Sp.meetN; rw [if_neg (show ¬ Sp.prp AX AY BX B_Y CX CY DX DY = true from by simp [Sp.prp, *])]; unfold Sp.shr; rw [(show Sp.addp [] AX AY CX CY DX DY = [(AX, AY)] from Sp.addp_y h3), (show Sp.addp [(AX, AY)] BX B_Y CX CY DX DY = [(AX, AY), (BX, B_Y)] from Sp.addp_y h4), (show Sp.addp [(AX, AY), (BX, B_Y)] CX CY AX AY BX B_Y = [(AX, AY), (BX, B_Y), (CX, CY)] from Sp.addp_y h5), (show Sp.addp [(AX, AY), (BX, B_Y), (CX, CY)] DX DY AX AY BX B_Y = [(AX, AY), (BX, B_Y), (CX, CY)] from Sp.addp_n h6)]; rfl))))
          · rcases Bool.eq_false_or_eq_true (Sp.addb [(AX, AY), (BX, B_Y)] DX DY AX AY BX B_Y) with h7 | h7
            · refine aw_p 31 (
                .a 4 5 <| .p (does_k [5] (shared1101 AX AY BX B_Y CX CY DX DY (by omega) (by omega) (by omega) (by omega) (by omega) (by omega) (by omega) (by omega) (by omega) (by omega) (by omega) (by omega) (by omega) (by omega) (by omega) (by omega) h3 h4 h5 h7)) <| .a 3 6 <| .nil _ _) ?_
              refine aw_rt ?_
              exact en_ret [.int .i64 2] (show (.int .i64 2 : Value) = (.int .i64 (Sp.meetN AX AY BX B_Y CX CY DX DY)) from (congrArg (Value.int .i64) (show 2 = (Sp.meetN AX AY BX B_Y CX CY DX DY) from by (unfold Sp.meetN; rw [if_neg (show ¬ Sp.prp AX AY BX B_Y CX CY DX DY = true from by simp [Sp.prp, *])]; unfold Sp.shr; rw [(show Sp.addp [] AX AY CX CY DX DY = [(AX, AY)] from Sp.addp_y h3), (show Sp.addp [(AX, AY)] BX B_Y CX CY DX DY = [(AX, AY), (BX, B_Y)] from Sp.addp_y h4), (show Sp.addp [(AX, AY), (BX, B_Y)] CX CY AX AY BX B_Y = [(AX, AY), (BX, B_Y)] from Sp.addp_n h5), (show Sp.addp [(AX, AY), (BX, B_Y)] DX DY AX AY BX B_Y = [(AX, AY), (BX, B_Y), (DX, DY)] from Sp.addp_y h7)]; rfl))))
            · refine aw_p 31 (
                .a 4 5 <| .p (does_k [5] (shared1100 AX AY BX B_Y CX CY DX DY (by omega) (by omega) (by omega) (by omega) (by omega) (by omega) (by omega) (by omega) (by omega) (by omega) (by omega) (by omega) (by omega) (by omega) (by omega) (by omega) h3 h4 h5 h7)) <| .a 3 6 <| .nil _ _) ?_
              refine aw_rt ?_
              exact en_ret [.int .i64 2] (show (.int .i64 2 : Value) = (.int .i64 (Sp.meetN AX AY BX B_Y CX CY DX DY)) from (congrArg (Value.int .i64) (show 2 = (Sp.meetN AX AY BX B_Y CX CY DX DY) from by (unfold Sp.meetN; rw [if_neg (show ¬ Sp.prp AX AY BX B_Y CX CY DX DY = true from by simp [Sp.prp, *])]; unfold Sp.shr; rw [(show Sp.addp [] AX AY CX CY DX DY = [(AX, AY)] from Sp.addp_y h3), (show Sp.addp [(AX, AY)] BX B_Y CX CY DX DY = [(AX, AY), (BX, B_Y)] from Sp.addp_y h4), (show Sp.addp [(AX, AY), (BX, B_Y)] CX CY AX AY BX B_Y = [(AX, AY), (BX, B_Y)] from Sp.addp_n h5), (show Sp.addp [(AX, AY), (BX, B_Y)] DX DY AX AY BX B_Y = [(AX, AY), (BX, B_Y)] from Sp.addp_n h7)]; rfl))))
        · rcases Bool.eq_false_or_eq_true (Sp.addb [(AX, AY)] CX CY AX AY BX B_Y) with h8 | h8
          · rcases Bool.eq_false_or_eq_true (Sp.addb [(AX, AY), (CX, CY)] DX DY AX AY BX B_Y) with h9 | h9
            · refine aw_p 31 (
                .a 4 5 <| .p (does_k [5] (shared1011 AX AY BX B_Y CX CY DX DY (by omega) (by omega) (by omega) (by omega) (by omega) (by omega) (by omega) (by omega) (by omega) (by omega) (by omega) (by omega) (by omega) (by omega) (by omega) (by omega) h3 h4 h8 h9)) <| .a 3 6 <| .nil _ _) ?_
              refine aw_rt ?_
              exact en_ret [.int .i64 2] (show (.int .i64 2 : Value) = (.int .i64 (Sp.meetN AX AY BX B_Y CX CY DX DY)) from (congrArg (Value.int .i64) (show 2 = (Sp.meetN AX AY BX B_Y CX CY DX DY) from by (unfold Sp.meetN; rw [if_neg (show ¬ Sp.prp AX AY BX B_Y CX CY DX DY = true from by simp [Sp.prp, *])]; unfold Sp.shr; rw [(show Sp.addp [] AX AY CX CY DX DY = [(AX, AY)] from Sp.addp_y h3), (show Sp.addp [(AX, AY)] BX B_Y CX CY DX DY = [(AX, AY)] from Sp.addp_n h4), (show Sp.addp [(AX, AY)] CX CY AX AY BX B_Y = [(AX, AY), (CX, CY)] from Sp.addp_y h8), (show Sp.addp [(AX, AY), (CX, CY)] DX DY AX AY BX B_Y = [(AX, AY), (CX, CY), (DX, DY)] from Sp.addp_y h9)]; rfl))))
            · refine aw_p 31 (
                .a 4 5 <| .p (does_k [5] (shared1010 AX AY BX B_Y CX CY DX DY (by omega) (by omega) (by omega) (by omega) (by omega) (by omega) (by omega) (by omega) (by omega) (by omega) (by omega) (by omega) (by omega) (by omega) (by omega) (by omega) h3 h4 h8 h9)) <| .a 3 6 <| .nil _ _) ?_
              refine aw_rt ?_
              exact en_ret [.int .i64 2] (show (.int .i64 2 : Value) = (.int .i64 (Sp.meetN AX AY BX B_Y CX CY DX DY)) from (congrArg (Value.int .i64) (show 2 = (Sp.meetN AX AY BX B_Y CX CY DX DY) from by (unfold Sp.meetN; rw [if_neg (show ¬ Sp.prp AX AY BX B_Y CX CY DX DY = true from by simp [Sp.prp, *])]; unfold Sp.shr; rw [(show Sp.addp [] AX AY CX CY DX DY = [(AX, AY)] from Sp.addp_y h3), (show Sp.addp [(AX, AY)] BX B_Y CX CY DX DY = [(AX, AY)] from Sp.addp_n h4), (show Sp.addp [(AX, AY)] CX CY AX AY BX B_Y = [(AX, AY), (CX, CY)] from Sp.addp_y h8), (show Sp.addp [(AX, AY), (CX, CY)] DX DY AX AY BX B_Y = [(AX, AY), (CX, CY)] from Sp.addp_n h9)]; rfl))))
          · rcases Bool.eq_false_or_eq_true (Sp.addb [(AX, AY)] DX DY AX AY BX B_Y) with h10 | h10
            · refine aw_p 31 (
                .a 4 5 <| .p (does_k [5] (shared1001 AX AY BX B_Y CX CY DX DY (by omega) (by omega) (by omega) (by omega) (by omega) (by omega) (by omega) (by omega) (by omega) (by omega) (by omega) (by omega) (by omega) (by omega) (by omega) (by omega) h3 h4 h8 h10)) <| .a 3 6 <| .nil _ _) ?_
              refine aw_rt ?_
              exact en_ret [.int .i64 2] (show (.int .i64 2 : Value) = (.int .i64 (Sp.meetN AX AY BX B_Y CX CY DX DY)) from (congrArg (Value.int .i64) (show 2 = (Sp.meetN AX AY BX B_Y CX CY DX DY) from by (unfold Sp.meetN; rw [if_neg (show ¬ Sp.prp AX AY BX B_Y CX CY DX DY = true from by simp [Sp.prp, *])]; unfold Sp.shr; rw [(show Sp.addp [] AX AY CX CY DX DY = [(AX, AY)] from Sp.addp_y h3), (show Sp.addp [(AX, AY)] BX B_Y CX CY DX DY = [(AX, AY)] from Sp.addp_n h4), (show Sp.addp [(AX, AY)] CX CY AX AY BX B_Y = [(AX, AY)] from Sp.addp_n h8), (show Sp.addp [(AX, AY)] DX DY AX AY BX B_Y = [(AX, AY), (DX, DY)] from Sp.addp_y h10)]; rfl))))
            · refine aw_p 31 (
                .a 4 5 <| .p (does_k [5] (shared1000 AX AY BX B_Y CX CY DX DY (by omega) (by omega) (by omega) (by omega) (by omega) (by omega) (by omega) (by omega) (by omega) (by omega) (by omega) (by omega) (by omega) (by omega) (by omega) (by omega) h3 h4 h8 h10)) <| .a 3 6 <| .nil _ _) ?_
              refine aw_rt ?_
              exact en_ret [.int .i64 1] (show (.int .i64 1 : Value) = (.int .i64 (Sp.meetN AX AY BX B_Y CX CY DX DY)) from (congrArg (Value.int .i64) (show 1 = (Sp.meetN AX AY BX B_Y CX CY DX DY) from by (unfold Sp.meetN; rw [if_neg (show ¬ Sp.prp AX AY BX B_Y CX CY DX DY = true from by simp [Sp.prp, *])]; unfold Sp.shr; rw [(show Sp.addp [] AX AY CX CY DX DY = [(AX, AY)] from Sp.addp_y h3), (show Sp.addp [(AX, AY)] BX B_Y CX CY DX DY = [(AX, AY)] from Sp.addp_n h4), (show Sp.addp [(AX, AY)] CX CY AX AY BX B_Y = [(AX, AY)] from Sp.addp_n h8), (show Sp.addp [(AX, AY)] DX DY AX AY BX B_Y = [(AX, AY)] from Sp.addp_n h10)]; rfl))))
      · rcases Bool.eq_false_or_eq_true (Sp.addb [] BX B_Y CX CY DX DY) with h11 | h11
        · rcases Bool.eq_false_or_eq_true (Sp.addb [(BX, B_Y)] CX CY AX AY BX B_Y) with h12 | h12
          · rcases Bool.eq_false_or_eq_true (Sp.addb [(BX, B_Y), (CX, CY)] DX DY AX AY BX B_Y) with h13 | h13
            · refine aw_p 31 (
                .a 4 5 <| .p (does_k [5] (shared0111 AX AY BX B_Y CX CY DX DY (by omega) (by omega) (by omega) (by omega) (by omega) (by omega) (by omega) (by omega) (by omega) (by omega) (by omega) (by omega) (by omega) (by omega) (by omega) (by omega) h3 h11 h12 h13)) <| .a 3 6 <| .nil _ _) ?_
              refine aw_rt ?_
              exact en_ret [.int .i64 2] (show (.int .i64 2 : Value) = (.int .i64 (Sp.meetN AX AY BX B_Y CX CY DX DY)) from (congrArg (Value.int .i64) (show 2 = (Sp.meetN AX AY BX B_Y CX CY DX DY) from by (unfold Sp.meetN; rw [if_neg (show ¬ Sp.prp AX AY BX B_Y CX CY DX DY = true from by simp [Sp.prp, *])]; unfold Sp.shr; rw [(show Sp.addp [] AX AY CX CY DX DY = [] from Sp.addp_n h3), (show Sp.addp [] BX B_Y CX CY DX DY = [(BX, B_Y)] from Sp.addp_y h11), (show Sp.addp [(BX, B_Y)] CX CY AX AY BX B_Y = [(BX, B_Y), (CX, CY)] from Sp.addp_y h12), (show Sp.addp [(BX, B_Y), (CX, CY)] DX DY AX AY BX B_Y = [(BX, B_Y), (CX, CY), (DX, DY)] from Sp.addp_y h13)]; rfl))))
            · refine aw_p 31 (
                .a 4 5 <| .p (does_k [5] (shared0110 AX AY BX B_Y CX CY DX DY (by omega) (by omega) (by omega) (by omega) (by omega) (by omega) (by omega) (by omega) (by omega) (by omega) (by omega) (by omega) (by omega) (by omega) (by omega) (by omega) h3 h11 h12 h13)) <| .a 3 6 <| .nil _ _) ?_
              refine aw_rt ?_
              exact en_ret [.int .i64 2] (show (.int .i64 2 : Value) = (.int .i64 (Sp.meetN AX AY BX B_Y CX CY DX DY)) from (congrArg (Value.int .i64) (show 2 = (Sp.meetN AX AY BX B_Y CX CY DX DY) from by (unfold Sp.meetN; rw [if_neg (show ¬ Sp.prp AX AY BX B_Y CX CY DX DY = true from by simp [Sp.prp, *])]; unfold Sp.shr; rw [(show Sp.addp [] AX AY CX CY DX DY = [] from Sp.addp_n h3), (show Sp.addp [] BX B_Y CX CY DX DY = [(BX, B_Y)] from Sp.addp_y h11), (show Sp.addp [(BX, B_Y)] CX CY AX AY BX B_Y = [(BX, B_Y), (CX, CY)] from Sp.addp_y h12), (show Sp.addp [(BX, B_Y), (CX, CY)] DX DY AX AY BX B_Y = [(BX, B_Y), (CX, CY)] from Sp.addp_n h13)]; rfl))))
          · rcases Bool.eq_false_or_eq_true (Sp.addb [(BX, B_Y)] DX DY AX AY BX B_Y) with h14 | h14
            · refine aw_p 31 (
                .a 4 5 <| .p (does_k [5] (shared0101 AX AY BX B_Y CX CY DX DY (by omega) (by omega) (by omega) (by omega) (by omega) (by omega) (by omega) (by omega) (by omega) (by omega) (by omega) (by omega) (by omega) (by omega) (by omega) (by omega) h3 h11 h12 h14)) <| .a 3 6 <| .nil _ _) ?_
              refine aw_rt ?_
              exact en_ret [.int .i64 2] (show (.int .i64 2 : Value) = (.int .i64 (Sp.meetN AX AY BX B_Y CX CY DX DY)) from (congrArg (Value.int .i64) (show 2 = (Sp.meetN AX AY BX B_Y CX CY DX DY) from by (unfold Sp.meetN; rw [if_neg (show ¬ Sp.prp AX AY BX B_Y CX CY DX DY = true from by simp [Sp.prp, *])]; unfold Sp.shr; rw [(show Sp.addp [] AX AY CX CY DX DY = [] from Sp.addp_n h3), (show Sp.addp [] BX B_Y CX CY DX DY = [(BX, B_Y)] from Sp.addp_y h11), (show Sp.addp [(BX, B_Y)] CX CY AX AY BX B_Y = [(BX, B_Y)] from Sp.addp_n h12), (show Sp.addp [(BX, B_Y)] DX DY AX AY BX B_Y = [(BX, B_Y), (DX, DY)] from Sp.addp_y h14)]; rfl))))
            · refine aw_p 31 (
                .a 4 5 <| .p (does_k [5] (shared0100 AX AY BX B_Y CX CY DX DY (by omega) (by omega) (by omega) (by omega) (by omega) (by omega) (by omega) (by omega) (by omega) (by omega) (by omega) (by omega) (by omega) (by omega) (by omega) (by omega) h3 h11 h12 h14)) <| .a 3 6 <| .nil _ _) ?_
              refine aw_rt ?_
              exact en_ret [.int .i64 1] (show (.int .i64 1 : Value) = (.int .i64 (Sp.meetN AX AY BX B_Y CX CY DX DY)) from (congrArg (Value.int .i64) (show 1 = (Sp.meetN AX AY BX B_Y CX CY DX DY) from by (unfold Sp.meetN; rw [if_neg (show ¬ Sp.prp AX AY BX B_Y CX CY DX DY = true from by simp [Sp.prp, *])]; unfold Sp.shr; rw [(show Sp.addp [] AX AY CX CY DX DY = [] from Sp.addp_n h3), (show Sp.addp [] BX B_Y CX CY DX DY = [(BX, B_Y)] from Sp.addp_y h11), (show Sp.addp [(BX, B_Y)] CX CY AX AY BX B_Y = [(BX, B_Y)] from Sp.addp_n h12), (show Sp.addp [(BX, B_Y)] DX DY AX AY BX B_Y = [(BX, B_Y)] from Sp.addp_n h14)]; rfl))))
        · rcases Bool.eq_false_or_eq_true (Sp.addb [] CX CY AX AY BX B_Y) with h15 | h15
          · rcases Bool.eq_false_or_eq_true (Sp.addb [(CX, CY)] DX DY AX AY BX B_Y) with h16 | h16
            · refine aw_p 31 (
                .a 4 5 <| .p (does_k [5] (shared0011 AX AY BX B_Y CX CY DX DY (by omega) (by omega) (by omega) (by omega) (by omega) (by omega) (by omega) (by omega) (by omega) (by omega) (by omega) (by omega) (by omega) (by omega) (by omega) (by omega) h3 h11 h15 h16)) <| .a 3 6 <| .nil _ _) ?_
              refine aw_rt ?_
              exact en_ret [.int .i64 2] (show (.int .i64 2 : Value) = (.int .i64 (Sp.meetN AX AY BX B_Y CX CY DX DY)) from (congrArg (Value.int .i64) (show 2 = (Sp.meetN AX AY BX B_Y CX CY DX DY) from by (unfold Sp.meetN; rw [if_neg (show ¬ Sp.prp AX AY BX B_Y CX CY DX DY = true from by simp [Sp.prp, *])]; unfold Sp.shr; rw [(show Sp.addp [] AX AY CX CY DX DY = [] from Sp.addp_n h3), (show Sp.addp [] BX B_Y CX CY DX DY = [] from Sp.addp_n h11), (show Sp.addp [] CX CY AX AY BX B_Y = [(CX, CY)] from Sp.addp_y h15), (show Sp.addp [(CX, CY)] DX DY AX AY BX B_Y = [(CX, CY), (DX, DY)] from Sp.addp_y h16)]; rfl))))
            · refine aw_p 31 (
                .a 4 5 <| .p (does_k [5] (shared0010 AX AY BX B_Y CX CY DX DY (by omega) (by omega) (by omega) (by omega) (by omega) (by omega) (by omega) (by omega) (by omega) (by omega) (by omega) (by omega) (by omega) (by omega) (by omega) (by omega) h3 h11 h15 h16)) <| .a 3 6 <| .nil _ _) ?_
              refine aw_rt ?_
              exact en_ret [.int .i64 1] (show (.int .i64 1 : Value) = (.int .i64 (Sp.meetN AX AY BX B_Y CX CY DX DY)) from (congrArg (Value.int .i64) (show 1 = (Sp.meetN AX AY BX B_Y CX CY DX DY) from by (unfold Sp.meetN; rw [if_neg (show ¬ Sp.prp AX AY BX B_Y CX CY DX DY = true from by simp [Sp.prp, *])]; unfold Sp.shr; rw [(show Sp.addp [] AX AY CX CY DX DY = [] from Sp.addp_n h3), (show Sp.addp [] BX B_Y CX CY DX DY = [] from Sp.addp_n h11), (show Sp.addp [] CX CY AX AY BX B_Y = [(CX, CY)] from Sp.addp_y h15), (show Sp.addp [(CX, CY)] DX DY AX AY BX B_Y = [(CX, CY)] from Sp.addp_n h16)]; rfl))))
          · rcases Bool.eq_false_or_eq_true (Sp.addb [] DX DY AX AY BX B_Y) with h17 | h17
            · refine aw_p 31 (
                .a 4 5 <| .p (does_k [5] (shared0001 AX AY BX B_Y CX CY DX DY (by omega) (by omega) (by omega) (by omega) (by omega) (by omega) (by omega) (by omega) (by omega) (by omega) (by omega) (by omega) (by omega) (by omega) (by omega) (by omega) h3 h11 h15 h17)) <| .a 3 6 <| .nil _ _) ?_
              refine aw_rt ?_
              exact en_ret [.int .i64 1] (show (.int .i64 1 : Value) = (.int .i64 (Sp.meetN AX AY BX B_Y CX CY DX DY)) from (congrArg (Value.int .i64) (show 1 = (Sp.meetN AX AY BX B_Y CX CY DX DY) from by (unfold Sp.meetN; rw [if_neg (show ¬ Sp.prp AX AY BX B_Y CX CY DX DY = true from by simp [Sp.prp, *])]; unfold Sp.shr; rw [(show Sp.addp [] AX AY CX CY DX DY = [] from Sp.addp_n h3), (show Sp.addp [] BX B_Y CX CY DX DY = [] from Sp.addp_n h11), (show Sp.addp [] CX CY AX AY BX B_Y = [] from Sp.addp_n h15), (show Sp.addp [] DX DY AX AY BX B_Y = [(DX, DY)] from Sp.addp_y h17)]; rfl))))
            · refine aw_p 31 (
                .a 4 5 <| .p (does_k [] (shared0000 AX AY BX B_Y CX CY DX DY (by omega) (by omega) (by omega) (by omega) (by omega) (by omega) (by omega) (by omega) (by omega) (by omega) (by omega) (by omega) (by omega) (by omega) (by omega) (by omega) h3 h11 h15 h17)) <| .a 3 5 <| .nil _ _) ?_
              refine aw_rt ?_
              exact en_ret [.int .i64 0] (show (.int .i64 0 : Value) = (.int .i64 (Sp.meetN AX AY BX B_Y CX CY DX DY)) from (congrArg (Value.int .i64) (show 0 = (Sp.meetN AX AY BX B_Y CX CY DX DY) from by (unfold Sp.meetN; rw [if_neg (show ¬ Sp.prp AX AY BX B_Y CX CY DX DY = true from by simp [Sp.prp, *])]; unfold Sp.shr; rw [(show Sp.addp [] AX AY CX CY DX DY = [] from Sp.addp_n h3), (show Sp.addp [] BX B_Y CX CY DX DY = [] from Sp.addp_n h11), (show Sp.addp [] CX CY AX AY BX B_Y = [] from Sp.addp_n h15), (show Sp.addp [] DX DY AX AY BX B_Y = [] from Sp.addp_n h17)]; rfl))))
  · have h1p : ¬ ((((Sp.cmp (Sp.crs AX AY BX B_Y CX CY) 0) * (Sp.cmp (Sp.crs AX AY BX B_Y DX DY) 0)) < 0)) := by first | (simpa using h1) | (have h1q := h1; simp at h1q; omega) | (have h1q := bx2 h1; simp at h1q; omega)
    refine aw_d 29 (
      .a 3 5 <| .p (does_c (turn_in AX AY BX B_Y CX CY (by omega) (by omega) (by omega) (by omega) (by omega) (by omega) (by omega) (by omega) (by omega) (by omega) (by omega) (by omega))) <| .a 3 5 <|
      .p (does_c (turn_in AX AY BX B_Y DX DY (by omega) (by omega) (by omega) (by omega) (by omega) (by omega) (by omega) (by omega) (by omega) (by omega) (by omega) (by omega))) <|
      .p (does_i ((Sp.cmp (Sp.crs AX AY BX B_Y CX CY) 0) * (Sp.cmp (Sp.crs AX AY BX B_Y DX DY) 0)) (wrap_i64 (by omega) (by omega)) .i64) <| .p (does_b false (h1)) <| .a 12 5 <| .nil _ _) ?_
    refine aw_fl 59 ?_
    refine aw_sk ?_
    refine then_normal ?_
    rcases Bool.eq_false_or_eq_true (Sp.addb [] AX AY CX CY DX DY) with h18 | h18
    · rcases Bool.eq_false_or_eq_true (Sp.addb [(AX, AY)] BX B_Y CX CY DX DY) with h19 | h19
      · rcases Bool.eq_false_or_eq_true (Sp.addb [(AX, AY), (BX, B_Y)] CX CY AX AY BX B_Y) with h20 | h20
        · rcases Bool.eq_false_or_eq_true (Sp.addb [(AX, AY), (BX, B_Y), (CX, CY)] DX DY AX AY BX B_Y) with h21 | h21
          · refine aw_p 31 (
              .a 4 5 <| .p (does_k [5] (shared1111 AX AY BX B_Y CX CY DX DY (by omega) (by omega) (by omega) (by omega) (by omega) (by omega) (by omega) (by omega) (by omega) (by omega) (by omega) (by omega) (by omega) (by omega) (by omega) (by omega) h18 h19 h20 h21)) <| .a 3 6 <| .nil _ _) ?_
            refine aw_rt ?_
            exact en_ret [.int .i64 2] (show (.int .i64 2 : Value) = (.int .i64 (Sp.meetN AX AY BX B_Y CX CY DX DY)) from (congrArg (Value.int .i64) (show 2 = (Sp.meetN AX AY BX B_Y CX CY DX DY) from by (unfold Sp.meetN; rw [if_neg (show ¬ Sp.prp AX AY BX B_Y CX CY DX DY = true from by simp [Sp.prp, *])]; unfold Sp.shr; rw [(show Sp.addp [] AX AY CX CY DX DY = [(AX, AY)] from Sp.addp_y h18), (show Sp.addp [(AX, AY)] BX B_Y CX CY DX DY = [(AX, AY), (BX, B_Y)] from Sp.addp_y h19), (show Sp.addp [(AX, AY), (BX, B_Y)] CX CY AX AY BX B_Y = [(AX, AY), (BX, B_Y), (CX, CY)] from Sp.addp_y h20), (show Sp.addp [(AX, AY), (BX, B_Y), (CX, CY)] DX DY AX AY BX B_Y = [(AX, AY), (BX, B_Y), (CX, CY), (DX, DY)] from Sp.addp_y h21)]; rfl))))
          · refine aw_p 31 (
              .a 4 5 <| .p (does_k [5] (shared1110 AX AY BX B_Y CX CY DX DY (by omega) (by omega) (by omega) (by omega) (by omega) (by omega) (by omega) (by omega) (by omega) (by omega) (by omega) (by omega) (by omega) (by omega) (by omega) (by omega) h18 h19 h20 h21)) <| .a 3 6 <| .nil _ _) ?_
            refine aw_rt ?_
            exact en_ret [.int .i64 2] (show (.int .i64 2 : Value) = (.int .i64 (Sp.meetN AX AY BX B_Y CX CY DX DY)) from (congrArg (Value.int .i64) (show 2 = (Sp.meetN AX AY BX B_Y CX CY DX DY) from by (unfold Sp.meetN; rw [if_neg (show ¬ Sp.prp AX AY BX B_Y CX CY DX DY = true from by simp [Sp.prp, *])]; unfold Sp.shr; rw [(show Sp.addp [] AX AY CX CY DX DY = [(AX, AY)] from Sp.addp_y h18), (show Sp.addp [(AX, AY)] BX B_Y CX CY DX DY = [(AX, AY), (BX, B_Y)] from Sp.addp_y h19), (show Sp.addp [(AX, AY), (BX, B_Y)] CX CY AX AY BX B_Y = [(AX, AY), (BX, B_Y), (CX, CY)] from Sp.addp_y h20), (show Sp.addp [(AX, AY), (BX, B_Y), (CX, CY)] DX DY AX AY BX B_Y = [(AX, AY), (BX, B_Y), (CX, CY)] from Sp.addp_n h21)]; rfl))))
        · rcases Bool.eq_false_or_eq_true (Sp.addb [(AX, AY), (BX, B_Y)] DX DY AX AY BX B_Y) with h22 | h22
          · refine aw_p 31 (
              .a 4 5 <| .p (does_k [5] (shared1101 AX AY BX B_Y CX CY DX DY (by omega) (by omega) (by omega) (by omega) (by omega) (by omega) (by omega) (by omega) (by omega) (by omega) (by omega) (by omega) (by omega) (by omega) (by omega) (by omega) h18 h19 h20 h22)) <| .a 3 6 <| .nil _ _) ?_
            refine aw_rt ?_
            exact en_ret [.int .i64 2] (show (.int .i64 2 : Value) = (.int .i64 (Sp.meetN AX AY BX B_Y CX CY DX DY)) from (congrArg (Value.int .i64) (show 2 = (Sp.meetN AX AY BX B_Y CX CY DX DY) from by (unfold Sp.meetN; rw [if_neg (show ¬ Sp.prp AX AY BX B_Y CX CY DX DY = true from by simp [Sp.prp, *])]; unfold Sp.shr; rw [(show Sp.addp [] AX AY CX CY DX DY = [(AX, AY)] from Sp.addp_y h18), (show Sp.addp [(AX, AY)] BX B_Y CX CY DX DY = [(AX, AY), (BX, B_Y)] from Sp.addp_y h19), (show Sp.addp [(AX, AY), (BX, B_Y)] CX CY AX AY BX B_Y = [(AX, AY), (BX, B_Y)] from Sp.addp_n h20), (show Sp.addp [(AX, AY), (BX, B_Y)] DX DY AX AY BX B_Y = [(AX, AY), (BX, B_Y), (DX, DY)] from Sp.addp_y h22)]; rfl))))
          · refine aw_p 31 (
              .a 4 5 <| .p (does_k [5] (shared1100 AX AY BX B_Y CX CY DX DY (by omega) (by omega) (by omega) (by omega) (by omega) (by omega) (by omega) (by omega) (by omega) (by omega) (by omega) (by omega) (by omega) (by omega) (by omega) (by omega) h18 h19 h20 h22)) <| .a 3 6 <| .nil _ _) ?_
            refine aw_rt ?_
            exact en_ret [.int .i64 2] (show (.int .i64 2 : Value) = (.int .i64 (Sp.meetN AX AY BX B_Y CX CY DX DY)) from (congrArg (Value.int .i64) (show 2 = (Sp.meetN AX AY BX B_Y CX CY DX DY) from by (unfold Sp.meetN; rw [if_neg (show ¬ Sp.prp AX AY BX B_Y CX CY DX DY = true from by simp [Sp.prp, *])]; unfold Sp.shr; rw [(show Sp.addp [] AX AY CX CY DX DY = [(AX, AY)] from Sp.addp_y h18), (show Sp.addp [(AX, AY)] BX B_Y CX CY DX DY = [(AX, AY), (BX, B_Y)] from Sp.addp_y h19), (show Sp.addp [(AX, AY), (BX, B_Y)] CX CY AX AY BX B_Y = [(AX, AY), (BX, B_Y)] from Sp.addp_n h20), (show Sp.addp [(AX, AY), (BX, B_Y)] DX DY AX AY BX B_Y = [(AX, AY), (BX, B_Y)] from Sp.addp_n h22)]; rfl))))
      · rcases Bool.eq_false_or_eq_true (Sp.addb [(AX, AY)] CX CY AX AY BX B_Y) with h23 | h23
        · rcases Bool.eq_false_or_eq_true (Sp.addb [(AX, AY), (CX, CY)] DX DY AX AY BX B_Y) with h24 | h24
          · refine aw_p 31 (
              .a 4 5 <| .p (does_k [5] (shared1011 AX AY BX B_Y CX CY DX DY (by omega) (by omega) (by omega) (by omega) (by omega) (by omega) (by omega) (by omega) (by omega) (by omega) (by omega) (by omega) (by omega) (by omega) (by omega) (by omega) h18 h19 h23 h24)) <| .a 3 6 <| .nil _ _) ?_
            refine aw_rt ?_
            exact en_ret [.int .i64 2] (show (.int .i64 2 : Value) = (.int .i64 (Sp.meetN AX AY BX B_Y CX CY DX DY)) from (congrArg (Value.int .i64) (show 2 = (Sp.meetN AX AY BX B_Y CX CY DX DY) from by (unfold Sp.meetN; rw [if_neg (show ¬ Sp.prp AX AY BX B_Y CX CY DX DY = true from by simp [Sp.prp, *])]; unfold Sp.shr; rw [(show Sp.addp [] AX AY CX CY DX DY = [(AX, AY)] from Sp.addp_y h18), (show Sp.addp [(AX, AY)] BX B_Y CX CY DX DY = [(AX, AY)] from Sp.addp_n h19), (show Sp.addp [(AX, AY)] CX CY AX AY BX B_Y = [(AX, AY), (CX, CY)] from Sp.addp_y h23), (show Sp.addp [(AX, AY), (CX, CY)] DX DY AX AY BX B_Y = [(AX, AY), (CX, CY), (DX, DY)] from Sp.addp_y h24)]; rfl))))
          · refine aw_p 31 (
              .a 4 5 <| .p (does_k [5] (shared1010 AX AY BX B_Y CX CY DX DY (by omega) (by omega) (by omega) (by omega) (by omega) (by omega) (by omega) (by omega) (by omega) (by omega) (by omega) (by omega) (by omega) (by omega) (by omega) (by omega) h18 h19 h23 h24)) <| .a 3 6 <| .nil _ _) ?_
            refine aw_rt ?_
            exact en_ret [.int .i64 2] (show (.int .i64 2 : Value) = (.int .i64 (Sp.meetN AX AY BX B_Y CX CY DX DY)) from (congrArg (Value.int .i64) (show 2 = (Sp.meetN AX AY BX B_Y CX CY DX DY) from by (unfold Sp.meetN; rw [if_neg (show ¬ Sp.prp AX AY BX B_Y CX CY DX DY = true from by simp [Sp.prp, *])]; unfold Sp.shr; rw [(show Sp.addp [] AX AY CX CY DX DY = [(AX, AY)] from Sp.addp_y h18), (show Sp.addp [(AX, AY)] BX B_Y CX CY DX DY = [(AX, AY)] from Sp.addp_n h19), (show Sp.addp [(AX, AY)] CX CY AX AY BX B_Y = [(AX, AY), (CX, CY)] from Sp.addp_y h23), (show Sp.addp [(AX, AY), (CX, CY)] DX DY AX AY BX B_Y = [(AX, AY), (CX, CY)] from Sp.addp_n h24)]; rfl))))
        · rcases Bool.eq_false_or_eq_true (Sp.addb [(AX, AY)] DX DY AX AY BX B_Y) with h25 | h25
          · refine aw_p 31 (
              .a 4 5 <| .p (does_k [5] (shared1001 AX AY BX B_Y CX CY DX DY (by omega) (by omega) (by omega) (by omega) (by omega) (by omega) (by omega) (by omega) (by omega) (by omega) (by omega) (by omega) (by omega) (by omega) (by omega) (by omega) h18 h19 h23 h25)) <| .a 3 6 <| .nil _ _) ?_
            refine aw_rt ?_
            exact en_ret [.int .i64 2] (show (.int .i64 2 : Value) = (.int .i64 (Sp.meetN AX AY BX B_Y CX CY DX DY)) from (congrArg (Value.int .i64) (show 2 = (Sp.meetN AX AY BX B_Y CX CY DX DY) from by (unfold Sp.meetN; rw [if_neg (show ¬ Sp.prp AX AY BX B_Y CX CY DX DY = true from by simp [Sp.prp, *])]; unfold Sp.shr; rw [(show Sp.addp [] AX AY CX CY DX DY = [(AX, AY)] from Sp.addp_y h18), (show Sp.addp [(AX, AY)] BX B_Y CX CY DX DY = [(AX, AY)] from Sp.addp_n h19), (show Sp.addp [(AX, AY)] CX CY AX AY BX B_Y = [(AX, AY)] from Sp.addp_n h23), (show Sp.addp [(AX, AY)] DX DY AX AY BX B_Y = [(AX, AY), (DX, DY)] from Sp.addp_y h25)]; rfl))))
          · refine aw_p 31 (
              .a 4 5 <| .p (does_k [5] (shared1000 AX AY BX B_Y CX CY DX DY (by omega) (by omega) (by omega) (by omega) (by omega) (by omega) (by omega) (by omega) (by omega) (by omega) (by omega) (by omega) (by omega) (by omega) (by omega) (by omega) h18 h19 h23 h25)) <| .a 3 6 <| .nil _ _) ?_
            refine aw_rt ?_
            exact en_ret [.int .i64 1] (show (.int .i64 1 : Value) = (.int .i64 (Sp.meetN AX AY BX B_Y CX CY DX DY)) from (congrArg (Value.int .i64) (show 1 = (Sp.meetN AX AY BX B_Y CX CY DX DY) from by (unfold Sp.meetN; rw [if_neg (show ¬ Sp.prp AX AY BX B_Y CX CY DX DY = true from by simp [Sp.prp, *])]; unfold Sp.shr; rw [(show Sp.addp [] AX AY CX CY DX DY = [(AX, AY)] from Sp.addp_y h18), (show Sp.addp [(AX, AY)] BX B_Y CX CY DX DY = [(AX, AY)] from Sp.addp_n h19), (show Sp.addp [(AX, AY)] CX CY AX AY BX B_Y = [(AX, AY)] from Sp.addp_n h23), (show Sp.addp [(AX, AY)] DX DY AX AY BX B_Y = [(AX, AY)] from Sp.addp_n h25)]; rfl))))
    · rcases Bool.eq_false_or_eq_true (Sp.addb [] BX B_Y CX CY DX DY) with h26 | h26
      · rcases Bool.eq_false_or_eq_true (Sp.addb [(BX, B_Y)] CX CY AX AY BX B_Y) with h27 | h27
        · rcases Bool.eq_false_or_eq_true (Sp.addb [(BX, B_Y), (CX, CY)] DX DY AX AY BX B_Y) with h28 | h28
          · refine aw_p 31 (
              .a 4 5 <| .p (does_k [5] (shared0111 AX AY BX B_Y CX CY DX DY (by omega) (by omega) (by omega) (by omega) (by omega) (by omega) (by omega) (by omega) (by omega) (by omega) (by omega) (by omega) (by omega) (by omega) (by omega) (by omega) h18 h26 h27 h28)) <| .a 3 6 <| .nil _ _) ?_
            refine aw_rt ?_
            exact en_ret [.int .i64 2] (show (.int .i64 2 : Value) = (.int .i64 (Sp.meetN AX AY BX B_Y CX CY DX DY)) from (congrArg (Value.int .i64) (show 2 = (Sp.meetN AX AY BX B_Y CX CY DX DY) from by (unfold Sp.meetN; rw [if_neg (show ¬ Sp.prp AX AY BX B_Y CX CY DX DY = true from by simp [Sp.prp, *])]; unfold Sp.shr; rw [(show Sp.addp [] AX AY CX CY DX DY = [] from Sp.addp_n h18), (show Sp.addp [] BX B_Y CX CY DX DY = [(BX, B_Y)] from Sp.addp_y h26), (show Sp.addp [(BX, B_Y)] CX CY AX AY BX B_Y = [(BX, B_Y), (CX, CY)] from Sp.addp_y h27), (show Sp.addp [(BX, B_Y), (CX, CY)] DX DY AX AY BX B_Y = [(BX, B_Y), (CX, CY), (DX, DY)] from Sp.addp_y h28)]; rfl))))
          · refine aw_p 31 (
              .a 4 5 <| .p (does_k [5] (shared0110 AX AY BX B_Y CX CY DX DY (by omega) (by omega) (by omega) (by omega) (by omega) (by omega) (by omega) (by omega) (by omega) (by omega) (by omega) (by omega) (by omega) (by omega) (by omega) (by omega) h18 h26 h27 h28)) <| .a 3 6 <| .nil _ _) ?_
            refine aw_rt ?_
            exact en_ret [.int .i64 2] (show (.int .i64 2 : Value) = (.int .i64 (Sp.meetN AX AY BX B_Y CX CY DX DY)) from (congrArg (Value.int .i64) (show 2 = (Sp.meetN AX AY BX B_Y CX CY DX DY) from by (unfold Sp.meetN; rw [if_neg (show ¬ Sp.prp AX AY BX B_Y CX CY DX DY = true from by simp [Sp.prp, *])]; unfold Sp.shr; rw [(show Sp.addp [] AX AY CX CY DX DY = [] from Sp.addp_n h18), (show Sp.addp [] BX B_Y CX CY DX DY = [(BX, B_Y)] from Sp.addp_y h26), (show Sp.addp [(BX, B_Y)] CX CY AX AY BX B_Y = [(BX, B_Y), (CX, CY)] from Sp.addp_y h27), (show Sp.addp [(BX, B_Y), (CX, CY)] DX DY AX AY BX B_Y = [(BX, B_Y), (CX, CY)] from Sp.addp_n h28)]; rfl))))
        · rcases Bool.eq_false_or_eq_true (Sp.addb [(BX, B_Y)] DX DY AX AY BX B_Y) with h29 | h29
          · refine aw_p 31 (
              .a 4 5 <| .p (does_k [5] (shared0101 AX AY BX B_Y CX CY DX DY (by omega) (by omega) (by omega) (by omega) (by omega) (by omega) (by omega) (by omega) (by omega) (by omega) (by omega) (by omega) (by omega) (by omega) (by omega) (by omega) h18 h26 h27 h29)) <| .a 3 6 <| .nil _ _) ?_
            refine aw_rt ?_
            exact en_ret [.int .i64 2] (show (.int .i64 2 : Value) = (.int .i64 (Sp.meetN AX AY BX B_Y CX CY DX DY)) from (congrArg (Value.int .i64) (show 2 = (Sp.meetN AX AY BX B_Y CX CY DX DY) from by (unfold Sp.meetN; rw [if_neg (show ¬ Sp.prp AX AY BX B_Y CX CY DX DY = true from by simp [Sp.prp, *])]; unfold Sp.shr; rw [(show Sp.addp [] AX AY CX CY DX DY = [] from Sp.addp_n h18), (show Sp.addp [] BX B_Y CX CY DX DY = [(BX, B_Y)] from Sp.addp_y h26), (show Sp.addp [(BX, B_Y)] CX CY AX AY BX B_Y = [(BX, B_Y)] from Sp.addp_n h27), (show Sp.addp [(BX, B_Y)] DX DY AX AY BX B_Y = [(BX, B_Y), (DX, DY)] from Sp.addp_y h29)]; rfl))))
          · refine aw_p 31 (
              .a 4 5 <| .p (does_k [5] (shared0100 AX AY BX B_Y CX CY DX DY (by omega) (by omega) (by omega) (by omega) (by omega) (by omega) (by omega) (by omega) (by omega) (by omega) (by omega) (by omega) (by omega) (by omega) (by omega) (by omega) h18 h26 h27 h29)) <| .a 3 6 <| .nil _ _) ?_
            refine aw_rt ?_
            exact en_ret [.int .i64 1] (show (.int .i64 1 : Value) = (.int .i64 (Sp.meetN AX AY BX B_Y CX CY DX DY)) from (congrArg (Value.int .i64) (show 1 = (Sp.meetN AX AY BX B_Y CX CY DX DY) from by (unfold Sp.meetN; rw [if_neg (show ¬ Sp.prp AX AY BX B_Y CX CY DX DY = true from by simp [Sp.prp, *])]; unfold Sp.shr; rw [(show Sp.addp [] AX AY CX CY DX DY = [] from Sp.addp_n h18), (show Sp.addp [] BX B_Y CX CY DX DY = [(BX, B_Y)] from Sp.addp_y h26), (show Sp.addp [(BX, B_Y)] CX CY AX AY BX B_Y = [(BX, B_Y)] from Sp.addp_n h27), (show Sp.addp [(BX, B_Y)] DX DY AX AY BX B_Y = [(BX, B_Y)] from Sp.addp_n h29)]; rfl))))
      · rcases Bool.eq_false_or_eq_true (Sp.addb [] CX CY AX AY BX B_Y) with h30 | h30
        · rcases Bool.eq_false_or_eq_true (Sp.addb [(CX, CY)] DX DY AX AY BX B_Y) with h31 | h31
          · refine aw_p 31 (
              .a 4 5 <| .p (does_k [5] (shared0011 AX AY BX B_Y CX CY DX DY (by omega) (by omega) (by omega) (by omega) (by omega) (by omega) (by omega) (by omega) (by omega) (by omega) (by omega) (by omega) (by omega) (by omega) (by omega) (by omega) h18 h26 h30 h31)) <| .a 3 6 <| .nil _ _) ?_
            refine aw_rt ?_
            exact en_ret [.int .i64 2] (show (.int .i64 2 : Value) = (.int .i64 (Sp.meetN AX AY BX B_Y CX CY DX DY)) from (congrArg (Value.int .i64) (show 2 = (Sp.meetN AX AY BX B_Y CX CY DX DY) from by (unfold Sp.meetN; rw [if_neg (show ¬ Sp.prp AX AY BX B_Y CX CY DX DY = true from by simp [Sp.prp, *])]; unfold Sp.shr; rw [(show Sp.addp [] AX AY CX CY DX DY = [] from Sp.addp_n h18), (show Sp.addp [] BX B_Y CX CY DX DY = [] from Sp.addp_n h26), (show Sp.addp [] CX CY AX AY BX B_Y = [(CX, CY)] from Sp.addp_y h30), (show Sp.addp [(CX, CY)] DX DY AX AY BX B_Y = [(CX, CY), (DX, DY)] from Sp.addp_y h31)]; rfl))))
          · refine aw_p 31 (
              .a 4 5 <| .p (does_k [5] (shared0010 AX AY BX B_Y CX CY DX DY (by omega) (by omega) (by omega) (by omega) (by omega) (by omega) (by omega) (by omega) (by omega) (by omega) (by omega) (by omega) (by omega) (by omega) (by omega) (by omega) h18 h26 h30 h31)) <| .a 3 6 <| .nil _ _) ?_
            refine aw_rt ?_
            exact en_ret [.int .i64 1] (show (.int .i64 1 : Value) = (.int .i64 (Sp.meetN AX AY BX B_Y CX CY DX DY)) from (congrArg (Value.int .i64) (show 1 = (Sp.meetN AX AY BX B_Y CX CY DX DY) from by (unfold Sp.meetN; rw [if_neg (show ¬ Sp.prp AX AY BX B_Y CX CY DX DY = true from by simp [Sp.prp, *])]; unfold Sp.shr; rw [(show Sp.addp [] AX AY CX CY DX DY = [] from Sp.addp_n h18), (show Sp.addp [] BX B_Y CX CY DX DY = [] from Sp.addp_n h26), (show Sp.addp [] CX CY AX AY BX B_Y = [(CX, CY)] from Sp.addp_y h30), (show Sp.addp [(CX, CY)] DX DY AX AY BX B_Y = [(CX, CY)] from Sp.addp_n h31)]; rfl))))
        · rcases Bool.eq_false_or_eq_true (Sp.addb [] DX DY AX AY BX B_Y) with h32 | h32
          · refine aw_p 31 (
              .a 4 5 <| .p (does_k [5] (shared0001 AX AY BX B_Y CX CY DX DY (by omega) (by omega) (by omega) (by omega) (by omega) (by omega) (by omega) (by omega) (by omega) (by omega) (by omega) (by omega) (by omega) (by omega) (by omega) (by omega) h18 h26 h30 h32)) <| .a 3 6 <| .nil _ _) ?_
            refine aw_rt ?_
            exact en_ret [.int .i64 1] (show (.int .i64 1 : Value) = (.int .i64 (Sp.meetN AX AY BX B_Y CX CY DX DY)) from (congrArg (Value.int .i64) (show 1 = (Sp.meetN AX AY BX B_Y CX CY DX DY) from by (unfold Sp.meetN; rw [if_neg (show ¬ Sp.prp AX AY BX B_Y CX CY DX DY = true from by simp [Sp.prp, *])]; unfold Sp.shr; rw [(show Sp.addp [] AX AY CX CY DX DY = [] from Sp.addp_n h18), (show Sp.addp [] BX B_Y CX CY DX DY = [] from Sp.addp_n h26), (show Sp.addp [] CX CY AX AY BX B_Y = [] from Sp.addp_n h30), (show Sp.addp [] DX DY AX AY BX B_Y = [(DX, DY)] from Sp.addp_y h32)]; rfl))))
          · refine aw_p 31 (
              .a 4 5 <| .p (does_k [] (shared0000 AX AY BX B_Y CX CY DX DY (by omega) (by omega) (by omega) (by omega) (by omega) (by omega) (by omega) (by omega) (by omega) (by omega) (by omega) (by omega) (by omega) (by omega) (by omega) (by omega) h18 h26 h30 h32)) <| .a 3 5 <| .nil _ _) ?_
            refine aw_rt ?_
            exact en_ret [.int .i64 0] (show (.int .i64 0 : Value) = (.int .i64 (Sp.meetN AX AY BX B_Y CX CY DX DY)) from (congrArg (Value.int .i64) (show 0 = (Sp.meetN AX AY BX B_Y CX CY DX DY) from by (unfold Sp.meetN; rw [if_neg (show ¬ Sp.prp AX AY BX B_Y CX CY DX DY = true from by simp [Sp.prp, *])]; unfold Sp.shr; rw [(show Sp.addp [] AX AY CX CY DX DY = [] from Sp.addp_n h18), (show Sp.addp [] BX B_Y CX CY DX DY = [] from Sp.addp_n h26), (show Sp.addp [] CX CY AX AY BX B_Y = [] from Sp.addp_n h30), (show Sp.addp [] DX DY AX AY BX B_Y = [] from Sp.addp_n h32)]; rfl))))
theorem segmeet_in (ax ay bx b_y cx cy dx dy : Int) (axl : -1048576 ≤ ax) (axu : ax ≤ 1048576) (ayl : -1048576 ≤ ay) (ayu : ay ≤ 1048576) (bxl : -1048576 ≤ bx) (bxu : bx ≤ 1048576) (b_yl : -1048576 ≤ b_y) (b_yu : b_y ≤ 1048576) (cxl : -1048576 ≤ cx) (cxu : cx ≤ 1048576) (cyl : -1048576 ≤ cy) (cyu : cy ≤ 1048576) (dxl : -1048576 ≤ dx) (dxu : dx ≤ 1048576) (dyl : -1048576 ≤ dy) (dyu : dy ≤ 1048576) : AC Try.prog 96 0 [.agg #[.int .i64 ax, .int .i64 ay], .agg #[.int .i64 bx, .int .i64 b_y], .agg #[.int .i64 cx, .int .i64 cy], .agg #[.int .i64 dx, .int .i64 dy]] [] (.int .i64 (Sp.meetN ax ay bx b_y cx cy dx dy)) [] := by
  have q := @segmeet_any ax ay bx b_y cx cy dx dy
  simp only [Sp.lim_id axl axu, Sp.lim_id ayl ayu, Sp.lim_id bxl bxu, Sp.lim_id b_yl b_yu, Sp.lim_id cxl cxu, Sp.lim_id cyl cyu, Sp.lim_id dxl dxu, Sp.lim_id dyl dyu] at q
  exact q
end Go.Proofs.Ytadifmimefmcnaa.Am
