/-
  Small functions of the laws of fractions.
-/
import Derived.Test.YtpfdihhlpegllaaProg
import Derived.Test.YtpfdihhlpegllaaAm13
import Derived.Test.YtpfdihhlpegllaaFr1
import Derived.Test.YtpfdihhlpegllaaFr2
namespace Go.Proofs.Ytpfdihhlpegllaa.Am
open Go Go.Proofs
set_option maxRecDepth 100000
set_option maxHeartbeats 4000000
set_option linter.unusedVariables false
set_option linter.unusedSimpArgs false

theorem same_ok (n d e : Int) :
    AC Try.prog 72 0 ([.agg #[.int .i64 n, .int .i64 d], .int .i64 e, .agg #[.int .i64 n, .int .i64 d], .int .i64 e]) [] (.bool true) [] := by
  refine ac_in Try.func72 (fun w0 W pin => ?_)
  refine aw_p 3 (
    .a 3 1 <| .nil _ _) ?_
  refine aw_p 7 (
    .a 2 3 <| .p (does_e true ((show ((n == n) && ((d == d) && true)) = true from by simp))) <| .a 3 3 <| .p (does_b true ((show (e == e) = true from by simp))) <| .a 2 3 <| .nil _ _) ?_
  refine aw_rt ?_
  exact en_ret [.bool true] (by kernel_rfl)

theorem rdivq_ok (n1 d1 n2 d2 : Int) (h0 : -6739986666787659948666753771754907668409286105635143120275902562304 ≤ (Sp.fn n1 d1 * Sp.fd n2 d2)) (h1 : (Sp.fn n1 d1 * Sp.fd n2 d2) ≤ 6739986666787659948666753771754907668409286105635143120275902562304) (h2 : -6739986666787659948666753771754907668409286105635143120275902562304 ≤ (Sp.fd n1 d1 * Sp.fn n2 d2)) (h3 : (Sp.fd n1 d1 * Sp.fn n2 d2) ≤ 6739986666787659948666753771754907668409286105635143120275902562304) : AC Try.prog 71 0 [lval (Sp.fn n1 d1 * Sp.fd n2 d2), lval (Sp.fd n1 d1 * Sp.fn n2 d2)] [] (.tuple #[.agg #[.int .i64 (Sp.dvn (Sp.rv n1 d1) (Sp.rv n2 d2)), .int .i64 (Sp.dvd (Sp.rv n1 d1) (Sp.rv n2 d2))], .int .i64 (Sp.dve (Sp.rv n1 d1) (Sp.rv n2 d2))]) [] := by
  have h := rratio_ok (Sp.fn n1 d1 * Sp.fd n2 d2) (Sp.fd n1 d1 * Sp.fn n2 d2) h0 h1 h2 h3
  have e := Sp.rdiv_leaf n1 d1 n2 d2
  rw [e.1, e.2.1, e.2.2] at h
  exact h

end Go.Proofs.Ytpfdihhlpegllaa.Am
