/-
  The walk of numbers between two others.
-/
import Derived.Test.YtigllakcfdoagaaProg
import Derived.Test.YtigllakcfdoagaaAm16
import Derived.Test.YtigllakcfdoagaaFr4
import Derived.Test.YtigllakcfdoagaaSq6
namespace Go.Proofs.Ytigllakcfdoagaa.Am
open Go Go.Proofs
set_option maxRecDepth 100000
set_option maxHeartbeats 4000000
set_option linter.unusedVariables false
set_option linter.unusedSimpArgs false

theorem segin_ok (n1 d1 : Int) (zln1 : -9223372036854775808 ≤ n1) (zun1 : n1 ≤ 9223372036854775807) (zld1 : -9223372036854775808 ≤ d1) (zud1 : d1 ≤ 9223372036854775807) (i k : Int) (i0 : -1048576 ≤ i) (i1 : i ≤ 1048576) (k0 : -1048576 ≤ k) (k1 : k ≤ 1048576) :
    AC Try.prog 40 0 ([.agg #[.int .i64 n1, .int .i64 d1], .int .i64 i, .int .i64 k]) [] (.bool (Sp.inS ((Sp.mn i k : Int) : Rat) ((Sp.mx i k : Int) : Rat) (Sp.rv n1 d1))) [] := by
  have mm := Sp.mn_mx i k; have mo := Sp.mn_mx_or i k
  refine ac_in Try.func40 (fun w0 W pin => ?_)
  refine aw_p 3 (
    .a 2 1 <| .nil _ _) ?_
  rcases Bool.eq_false_or_eq_true (decide (((Sp.mn i k : Int) : Rat) ≤ (Sp.rv n1 d1))) with h1 | h1
  · have h1p : ((((Sp.mn i k : Int) : Rat) ≤ (Sp.rv n1 d1))) := by first | (simpa using h1) | (have h1q := h1; simp at h1q; omega) | (have h1q := bx1 h1; simp at h1q; omega)
    refine aw_d 7 (
      .a 3 2 <| .p (does_c ((by have h := fof_ok (Sp.mn i k); rw [Sp.mx_id (by omega)] at h; exact h))) <| .a 1 2 <|
      .p (does_c ((by have h := fcmp_ok (Sp.mn i k) 1 (by omega) (by omega) (by decide) (by decide) n1 d1 (by omega) (by omega) (by omega) (by omega); rw [(Sp.rv_int (Sp.mn i k) (by omega))] at h; exact h))) <| .p (does_b true (((Sp.rcmp_le ((Sp.mn i k : Int) : Rat) (Sp.rv n1 d1))).trans (h1))) <|
      .a 5 2 <| .p (does_c ((by have h := fof_ok (Sp.mx i k); rw [Sp.mx_id (by omega)] at h; exact h))) <|
      .p (does_c ((by have h := fcmp_ok n1 d1 (by omega) (by omega) (by omega) (by omega) (Sp.mx i k) 1 (by omega) (by omega) (by decide) (by decide); rw [(Sp.rv_int (Sp.mx i k) (by omega))] at h; exact h))) <|
      .p (does_b (decide ((Sp.rv n1 d1) ≤ ((Sp.mx i k : Int) : Rat))) ((Sp.rcmp_le (Sp.rv n1 d1) ((Sp.mx i k : Int) : Rat)))) <| .a 2 2 <| .nil _ _) ?_
    refine aw_rt ?_
    exact en_ret [.bool (decide ((Sp.rv n1 d1) ≤ ((Sp.mx i k : Int) : Rat)))] (show (.bool (decide ((Sp.rv n1 d1) ≤ ((Sp.mx i k : Int) : Rat))) : Value) = (.bool (Sp.inS ((Sp.mn i k : Int) : Rat) ((Sp.mx i k : Int) : Rat) (Sp.rv n1 d1))) from (congrArg Value.bool (show (decide ((Sp.rv n1 d1) ≤ ((Sp.mx i k : Int) : Rat))) = (Sp.inS ((Sp.mn i k : Int) : Rat) ((Sp.mx i k : Int) : Rat) (Sp.rv n1 d1)) from by (simp only [Sp.inS, *, decide_true, decide_false, Bool.true_and, Bool.false_and, Bool.and_false, Bool.and_true]))))
  · have h1p : ¬ ((((Sp.mn i k : Int) : Rat) ≤ (Sp.rv n1 d1))) := by first | (simpa using h1) | (have h1q := h1; simp at h1q; omega) | (have h1q := bx2 h1; simp at h1q; omega)
    refine aw_d 7 (
      .a 3 2 <| .p (does_c ((by have h := fof_ok (Sp.mn i k); rw [Sp.mx_id (by omega)] at h; exact h))) <| .a 1 2 <|
      .p (does_c ((by have h := fcmp_ok (Sp.mn i k) 1 (by omega) (by omega) (by decide) (by decide) n1 d1 (by omega) (by omega) (by omega) (by omega); rw [(Sp.rv_int (Sp.mn i k) (by omega))] at h; exact h))) <| .p (does_b false (((Sp.rcmp_le ((Sp.mn i k : Int) : Rat) (Sp.rv n1 d1))).trans (h1))) <|
      .a 10 2 <| .nil _ _) ?_
    refine aw_rt ?_
    exact en_ret [.bool false] (show (.bool false : Value) = (.bool (Sp.inS ((Sp.mn i k : Int) : Rat) ((Sp.mx i k : Int) : Rat) (Sp.rv n1 d1))) from (congrArg Value.bool (show false = (Sp.inS ((Sp.mn i k : Int) : Rat) ((Sp.mx i k : Int) : Rat) (Sp.rv n1 d1)) from by (simp only [Sp.inS, *, decide_true, decide_false, Bool.true_and, Bool.false_and, Bool.and_false, Bool.and_true]))))


end Go.Proofs.Ytigllakcfdoagaa.Am
