/-
  The walk of what a box contains.
-/
import Derived.Test.YtndkhgfecnbmnaaProg
import Derived.Test.YtndkhgfecnbmnaaAm16
import Derived.Test.YtndkhgfecnbmnaaSp6
import Derived.Test.YtndkhgfecnbmnaaPt1
namespace Go.Proofs.Ytndkhgfecnbmnaa.Am
open Go Go.Proofs
set_option maxRecDepth 100000
set_option maxHeartbeats 4000000
set_option linter.unusedVariables false
set_option linter.unusedSimpArgs false

theorem has_ok (ax ay az aw px py : Int) :
    AC Try.prog 15 0 ([.agg #[.int .i64 ax, .int .i64 ay, .int .i64 az, .int .i64 aw], .agg #[.int .i64 px, .int .i64 py]]) [] (.bool (Sp.inbox ax ay az aw px py)) [] := by
  refine ac_in Try.func15 (fun w0 W pin => ?_)
  refine aw_p 3 (
    .a 3 1 <| .nil _ _) ?_
  rcases Bool.eq_false_or_eq_true (decide (ax ≤ px)) with h1 | h1
  · have h1p : ((ax ≤ px)) := by first | (simpa using h1) | (have h1q := h1; simp at h1q; omega) | (have h1q := bx1 h1; simp at h1q; omega)
    rcases Bool.eq_false_or_eq_true (decide (px ≤ az)) with h2 | h2
    · have h2p : ((px ≤ az)) := by first | (simpa using h2) | (have h2q := h2; simp at h2q; omega) | (have h2q := bx1 h2; simp at h2q; omega)
      rcases Bool.eq_false_or_eq_true (decide (ay ≤ py)) with h3 | h3
      · have h3p : ((ay ≤ py)) := by first | (simpa using h3) | (have h3q := h3; simp at h3q; omega) | (have h3q := bx1 h3; simp at h3q; omega)
        refine aw_p 7 (
          .a 5 3 <| .p (does_b true (h1)) <| .a 6 3 <| .p (does_b true (h2)) <| .a 7 3 <| .p (does_b true (h3)) <| .a 10 3 <| .nil _ _) ?_
        refine aw_rt ?_
        exact en_ret [.bool (decide (py ≤ aw))] (show (.bool (decide (py ≤ aw)) : Value) = (.bool (Sp.inbox ax ay az aw px py)) from (congrArg Value.bool (show (decide (py ≤ aw)) = (Sp.inbox ax ay az aw px py) from by (simp [Sp.inbox, *]))))
      · have h3p : ¬ ((ay ≤ py)) := by first | (simpa using h3) | (have h3q := h3; simp at h3q; omega) | (have h3q := bx2 h3; simp at h3q; omega)
        refine aw_p 7 (
          .a 5 3 <| .p (does_b true (h1)) <| .a 6 3 <| .p (does_b true (h2)) <| .a 7 3 <| .p (does_b false (h3)) <| .a 10 3 <| .nil _ _) ?_
        refine aw_rt ?_
        exact en_ret [.bool false] (show (.bool false : Value) = (.bool (Sp.inbox ax ay az aw px py)) from (congrArg Value.bool (show false = (Sp.inbox ax ay az aw px py) from by (simp [Sp.inbox, *]))))
    · have h2p : ¬ ((px ≤ az)) := by first | (simpa using h2) | (have h2q := h2; simp at h2q; omega) | (have h2q := bx2 h2; simp at h2q; omega)
      refine aw_p 7 (
        .a 5 3 <| .p (does_b true (h1)) <| .a 6 3 <| .p (does_b false (h2)) <| .a 18 3 <| .nil _ _) ?_
      refine aw_rt ?_
      exact en_ret [.bool false] (show (.bool false : Value) = (.bool (Sp.inbox ax ay az aw px py)) from (congrArg Value.bool (show false = (Sp.inbox ax ay az aw px py) from by (simp [Sp.inbox, *]))))
  · have h1p : ¬ ((ax ≤ px)) := by first | (simpa using h1) | (have h1q := h1; simp at h1q; omega) | (have h1q := bx2 h1; simp at h1q; omega)
    refine aw_p 7 (
      .a 5 3 <| .p (does_b false (h1)) <| .a 25 3 <| .nil _ _) ?_
    refine aw_rt ?_
    exact en_ret [.bool false] (show (.bool false : Value) = (.bool (Sp.inbox ax ay az aw px py)) from (congrArg Value.bool (show false = (Sp.inbox ax ay az aw px py) from by (simp [Sp.inbox, *]))))


end Go.Proofs.Ytndkhgfecnbmnaa.Am
