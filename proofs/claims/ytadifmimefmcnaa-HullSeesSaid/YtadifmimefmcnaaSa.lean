/-
  The walks of the document's lines of sight, first part.
-/
import Derived.Test.YtadifmimefmcnaaProg
import Derived.Test.YtadifmimefmcnaaAm16
import Derived.Test.YtadifmimefmcnaaPt3
import Derived.Test.YtadifmimefmcnaaHu15
import Derived.Test.YtadifmimefmcnaaAm22
namespace Go.Proofs.Ytadifmimefmcnaa.Am
open Go Go.Proofs
set_option maxRecDepth 100000
set_option maxHeartbeats 4000000
set_option linter.unusedVariables false
set_option linter.unusedSimpArgs false

theorem sd_ok (ux uy x y qx qy s : Int) (bux : -1048576 ≤ ux ∧ ux ≤ 1048576) (buy : -1048576 ≤ uy ∧ uy ≤ 1048576) (bx : -1048576 ≤ x ∧ x ≤ 1048576) (by1 : -1048576 ≤ y ∧ y ≤ 1048576) (bqx : -1048576 ≤ qx ∧ qx ≤ 1048576) (bqy : -1048576 ≤ qy ∧ qy ≤ 1048576) (hs : s = 1 ∨ s = -1) :
    AC Try.prog 44 3 ([.agg #[.int .i64 ux, .int .i64 uy], .pointer (some ⟨0, 0, none⟩), .pointer (some ⟨1, 0, none⟩), .pointer (some ⟨2, 0, none⟩)]) [(0, ⟨[.int .i64 x, .int .i64 y], 29, true, 2⟩), (1, ⟨[.int .i64 qx, .int .i64 qy], 29, true, 2⟩), (2, ⟨[.int .i64 s], 3, true, 1⟩)] (.bool (Sp.sdf (x, y) (qx, qy) s (ux, uy))) [(0, ⟨[.int .i64 x, .int .i64 y], 29, true, 2⟩), (1, ⟨[.int .i64 qx, .int .i64 qy], 29, true, 2⟩), (2, ⟨[.int .i64 s], 3, true, 1⟩)] := by
  have cb := Sp.crs_bd (ax := x) (ay := y) (bx := qx) (b_y := qy) (cx := ux) (cy := uy) (M := 1048576) (by decide) ⟨bx, by1, bqx, bqy, bux, buy⟩; have cm := Sp.sgn_mul (c := Sp.crs x y qx qy ux uy) hs
  refine ac_in Try.func44 (fun w0 W pin => ?_)
  refine aw_p 3 (
    .a 2 3 <| .nil _ _) ?_
  refine aw_d 7 (
    .a 3 4 <| .p (does_c (rcross_in x y qx qy ux uy (by omega) (by omega) (by omega) (by omega) (by omega) (by omega) (by omega) (by omega) (by omega) (by omega) (by omega) (by omega))) <| .a 1 4 <| .p (does_i ((Sp.crs x y qx qy ux uy) * s) (wrap_i64 (by omega) (by omega)) .i64) <| .a 2 4 <| .nil _ _) ?_
  refine aw_rt ?_
  exact en_ret [.bool (decide (((Sp.crs x y qx qy ux uy) * s) < 0))] (show (.bool (decide (((Sp.crs x y qx qy ux uy) * s) < 0)) : Value) = (.bool (Sp.sdf (x, y) (qx, qy) s (ux, uy))) from (congrArg Value.bool (show (decide (((Sp.crs x y qx qy ux uy) * s) < 0)) = (Sp.sdf (x, y) (qx, qy) s (ux, uy)) from by rfl)))

theorem fd_ok (cx cy dx dy x y : Int) (bcx : -1048576 ≤ cx ∧ cx ≤ 1048576) (bcy : -1048576 ≤ cy ∧ cy ≤ 1048576) (bdx : -1048576 ≤ dx ∧ dx ≤ 1048576) (bdy : -1048576 ≤ dy ∧ dy ≤ 1048576) (bx : -1048576 ≤ x ∧ x ≤ 1048576) (by1 : -1048576 ≤ y ∧ y ≤ 1048576) :
    AC Try.prog 47 1 ([.agg #[.int .i64 cx, .int .i64 cy], .agg #[.int .i64 dx, .int .i64 dy], .pointer (some ⟨0, 0, none⟩)]) [(0, ⟨[.int .i64 x, .int .i64 y], 29, true, 2⟩)] (.int .i64 (Sp.dot x y cx cy cx cy - Sp.dot x y dx dy dx dy)) [(0, ⟨[.int .i64 x, .int .i64 y], 29, true, 2⟩)] := by
  have f1 := Sp.far_bd bx by1 bcx bcy; have f2 := Sp.far_bd bx by1 bdx bdy
  refine ac_in Try.func47 (fun w0 W pin => ?_)
  refine aw_p 3 (
    .a 3 1 <| .nil _ _) ?_
  refine aw_d 7 (
    .a 2 3 <| .p (does_c (rfar_in x y cx cy (by omega) (by omega) (by omega) (by omega) (by omega) (by omega) (by omega) (by omega))) <| .a 2 3 <| .p (does_c (rfar_in x y dx dy (by omega) (by omega) (by omega) (by omega) (by omega) (by omega) (by omega) (by omega))) <|
    .p (does_i ((Sp.dot x y cx cy cx cy) - (Sp.dot x y dx dy dx dy)) (wrap_i64 (by omega) (by omega)) .i64) <| .a 1 3 <| .nil _ _) ?_
  refine aw_rt ?_
  exact en_ret [.int .i64 ((Sp.dot x y cx cy cx cy) - (Sp.dot x y dx dy dx dy))] (show (.int .i64 ((Sp.dot x y cx cy cx cy) - (Sp.dot x y dx dy dx dy)) : Value) = (.int .i64 (Sp.dot x y cx cy cx cy - Sp.dot x y dx dy dx dy)) from (congrArg (Value.int .i64) (show ((Sp.dot x y cx cy cx cy) - (Sp.dot x y dx dy dx dy)) = (Sp.dot x y cx cy cx cy - Sp.dot x y dx dy dx dy) from by rfl)))


end Go.Proofs.Ytadifmimefmcnaa.Am
