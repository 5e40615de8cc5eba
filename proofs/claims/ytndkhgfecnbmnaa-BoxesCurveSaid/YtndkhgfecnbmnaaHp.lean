/-
  The point of a number.
-/
import Derived.Test.YtndkhgfecnbmnaaProg
import Derived.Test.YtndkhgfecnbmnaaAm16
import Derived.Test.YtndkhgfecnbmnaaPt1
namespace Go.Proofs.Ytndkhgfecnbmnaa.Am
open Go Go.Proofs
set_option maxRecDepth 100000
set_option maxHeartbeats 4000000
set_option linter.unusedVariables false
set_option linter.unusedSimpArgs false

theorem h6point_ok (x : Int) (hx : Sp.In64 x) :
    AC Try.prog 36 0 ([.int .i64 x]) [] (.agg #[.int .i64 (x % 81 - 40), .int .i64 (Int.tdiv x 81 % 81 - 40)]) [] := by
  refine ac_in Try.func36 (fun w0 W pin => ?_)
  refine aw_p 3 (
    .a 1 1 <| .nil _ _) ?_
  refine aw_p 7 (
    .a 2 2 <| .p (does_i (Int.tdiv x 81) (wrap_i64 (Sp.tdiv_in hx (by decide)).1 (Sp.tdiv_in hx (by decide)).2) .i64) <| .a 1 2 <| .p (does_k [2] (mpoint_ok x (Int.tdiv x 81))) <| .a 1 3 <| .nil _ _) ?_
  refine aw_rt ?_
  exact en_ret [.agg #[.int .i64 (x % 81 - 40), .int .i64 ((Int.tdiv x 81) % 81 - 40)]] (show (.agg #[.int .i64 (x % 81 - 40), .int .i64 ((Int.tdiv x 81) % 81 - 40)] : Value) = (.agg #[.int .i64 (x % 81 - 40), .int .i64 (Int.tdiv x 81 % 81 - 40)]) from (congrArg (fun z : List Value => Value.agg z.toArray) (lcons rfl (lcons (congrArg (Value.int .i64) (show ((Int.tdiv x 81) % 81 - 40) = (Int.tdiv x 81 % 81 - 40) from by rfl)) rfl))))


end Go.Proofs.Ytndkhgfecnbmnaa.Am
