/-
  The walks of a box and of a point.
-/
import Derived.Test.YtndkhgfecnbmnaaProg
import Derived.Test.YtndkhgfecnbmnaaAm16
import Derived.Test.YtndkhgfecnbmnaaBx
import Derived.Test.YtndkhgfecnbmnaaSq7
namespace Go.Proofs.Ytndkhgfecnbmnaa.Am
open Go Go.Proofs
set_option maxRecDepth 100000
set_option maxHeartbeats 4000000
set_option linter.unusedVariables false
set_option linter.unusedSimpArgs false

theorem gap_ok (lx ly hx hy ax ay : Int) (h : Sp.bok lx ly hx hy = true) (k : ((ax == (Sp.lim 1048576 ax)) && ((ay == (Sp.lim 1048576 ay)) && true)) = true) :
    AC Try.prog 46 0 ([.agg #[.int .i64 lx, .int .i64 ly, .int .i64 hx, .int .i64 hy], .agg #[.int .i64 ax, .int .i64 ay]]) [] (.tuple #[.int .i64 (Sp.gapN lx ly hx hy ax ay), .int .i64 0]) [] := by
  have bb := Sp.bok_bd h; have ob := Sp.okb_bd (x := ax) (y := ay) k; have gx := Sp.gapq_bd (l := lx) (h := hx) (a := ax) (by omega) (by omega) (by omega) (by omega) (by omega) (by omega); have gy := Sp.gapq_bd (l := ly) (h := hy) (a := ay) (by omega) (by omega) (by omega) (by omega) (by omega) (by omega); unfold Sp.gapq at gx gy
  refine ac_in Try.func46 (fun w0 W pin => ?_)
  refine aw_p 3 (
    .a 4 1 <| .nil _ _) ?_
  refine aw_sq 6 7 ?_
  refine aw_p 13 (
    .a 1 3 <| .p (does_c ((by have q := bok_ok lx ly hx hy; rw [h] at q; exact q))) <| .a 3 3 <| .p (does_c ((by have q := pok_ok ax ay; rw [k] at q; exact q))) <| .a 2 3 <| .nil _ _) ?_
  refine aw_fl 27 ?_
  refine aw_sk ?_
  refine then_normal ?_
  refine aw_p 15 (
    .a 23 3 <| .nil _ _) ?_
  refine aw_p 31 (
    .a 2 4 <| .p (does_c (sq_in ax ay (Sp.mx lx (Sp.mn ax hx)) (Sp.mx ly (Sp.mn ay hy)) (by omega) (by omega) (by omega) (by omega) (by omega) (by omega) (by omega) (by omega))) <| .a 2 4 <| .nil _ _) ?_
  refine aw_rt ?_
  exact en_ret [.int .i64 (Sp.dot ax ay (Sp.mx lx (Sp.mn ax hx)) (Sp.mx ly (Sp.mn ay hy)) (Sp.mx lx (Sp.mn ax hx)) (Sp.mx ly (Sp.mn ay hy))), .int .i64 0] (show (.tuple #[.int .i64 (Sp.dot ax ay (Sp.mx lx (Sp.mn ax hx)) (Sp.mx ly (Sp.mn ay hy)) (Sp.mx lx (Sp.mn ax hx)) (Sp.mx ly (Sp.mn ay hy))), .int .i64 0] : Value) = (.tuple #[.int .i64 (Sp.gapN lx ly hx hy ax ay), .int .i64 0]) from (congrArg (fun z : List Value => Value.tuple z.toArray) (lcons (congrArg (Value.int .i64) (show (Sp.dot ax ay (Sp.mx lx (Sp.mn ax hx)) (Sp.mx ly (Sp.mn ay hy)) (Sp.mx lx (Sp.mn ax hx)) (Sp.mx ly (Sp.mn ay hy))) = (Sp.gapN lx ly hx hy ax ay) from by rfl)) (lcons rfl rfl))))


end Go.Proofs.Ytndkhgfecnbmnaa.Am
