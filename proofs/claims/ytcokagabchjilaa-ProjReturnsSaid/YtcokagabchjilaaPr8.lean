/-
  A span around a number.
-/
import Derived.Test.YtcokagabchjilaaProg
import Derived.Test.YtcokagabchjilaaAm16
import Derived.Test.YtcokagabchjilaaPr7
import Derived.Test.YtcokagabchjilaaPj6
namespace Go.Proofs.Ytcokagabchjilaa.Am
open Go Go.Proofs
set_option maxRecDepth 100000
set_option maxHeartbeats 4000000
set_option linter.unusedVariables false
set_option linter.unusedSimpArgs false

theorem pnear_ok (p q : Rat) (fp : Sp.fitq p = true) (fq : Sp.fitq q = true) (n : Int) (n0 : -1000000000 ≤ n) (n1 : n ≤ 1000000000) :
    AC Try.prog 38 1 ([.agg #[.int .i64 (Sp.qn p), .int .i64 (Sp.qd p), .int .i64 (Sp.qn q), .int .i64 (Sp.qd q)], .int .i64 n, .pointer (some ⟨0, 0, none⟩)]) [(0, ⟨[.int .i64 1, .int .i64 1], 25, true, 2⟩)] (.bool (Sp.nearS p q n)) [(0, ⟨[.int .i64 1, .int .i64 1], 25, true, 2⟩)] := by
  refine ac_in Try.func38 (fun w0 W pin => ?_)
  refine aw_p 3 (
    .a 2 1 <| .nil _ _) ?_
  refine aw_d 7 (
    .a 1 2 <| .p (does_c ((by have h := fof_ok n; rw [Sp.mx_id (by omega)] at h; exact h))) <| .a 1 2 <|
    .p (does_c ((by have h := fsub_ok n 1 (by omega) (by omega) (by decide) (by decide) 1 1 (by decide) (by decide) (by decide) (by decide); rw [(Sp.rv_int n (by omega)), (Sp.rv_int 1 (by decide)), (Sp.qe_fit (q := (((n : Int) : Rat) + (-((1 : Int) : Rat)))) (Sp.bd_fit (Sp.Bd.add (Sp.Bd.mono (N' := 1000000000) (D' := 1) (Sp.Bd.int n) (by omega) (by decide)) (Sp.Bd.neg (Sp.Bd.int 1))) (by decide) (by decide)))] at h; exact h))) <|
    .a 6 2 <| .nil _ _) ?_
  refine aw_d 15 (
    .a 1 3 <| .p (does_c ((by have h := fof_ok n; rw [Sp.mx_id (by omega)] at h; exact h))) <| .a 1 3 <|
    .p (does_c ((by have h := fadd_ok n 1 (by omega) (by omega) (by decide) (by decide) 1 1 (by decide) (by decide) (by decide) (by decide); rw [(Sp.rv_int n (by omega)), (Sp.rv_int 1 (by decide)), (Sp.qe_fit (q := (((n : Int) : Rat) + ((1 : Int) : Rat))) (Sp.bd_fit (Sp.Bd.add (Sp.Bd.mono (N' := 1000000000) (D' := 1) (Sp.Bd.int n) (by omega) (by decide)) (Sp.Bd.int 1)) (by decide) (by decide)))] at h; exact h))) <|
    .a 6 3 <| .nil _ _) ?_
  rcases Bool.eq_false_or_eq_true (decide ((((n : Int) : Rat) + (-((1 : Int) : Rat))) < (p))) with h1 | h1
  · have h1p : (((((n : Int) : Rat) + (-((1 : Int) : Rat))) < (p))) := by first | (simpa using h1) | (have h1q := h1; simp at h1q; omega) | (have h1q := bx1 h1; simp at h1q; omega)
    refine aw_p 31 (
      .a 10 4 <|
      .p (does_c ((by have h := fcmp_ok (Sp.qn (((n : Int) : Rat) + (-((1 : Int) : Rat)))) (Sp.qd (((n : Int) : Rat) + (-((1 : Int) : Rat)))) (by have := Sp.qn_bd (((n : Int) : Rat) + (-((1 : Int) : Rat))); omega) (by have := Sp.qn_bd (((n : Int) : Rat) + (-((1 : Int) : Rat))); omega) (by have := Sp.qd_bd (((n : Int) : Rat) + (-((1 : Int) : Rat))); omega) (by have := Sp.qd_bd (((n : Int) : Rat) + (-((1 : Int) : Rat))); omega) (Sp.qn p) (Sp.qd p) (by have := Sp.qn_bd p; omega) (by have := Sp.qn_bd p; omega) (by have := Sp.qd_bd p; omega) (by have := Sp.qd_bd p; omega); rw [(Sp.rv_fit (q := (((n : Int) : Rat) + (-((1 : Int) : Rat)))) (Sp.bd_fit (Sp.Bd.add (Sp.Bd.mono (N' := 1000000000) (D' := 1) (Sp.Bd.int n) (by omega) (by decide)) (Sp.Bd.neg (Sp.Bd.int 1))) (by decide) (by decide))), (Sp.rv_fit (q := p) fp)] at h; exact h))) <|
      .p (does_b true (((Sp.rcmp_neg (((n : Int) : Rat) + (-((1 : Int) : Rat))) (p))).trans (h1))) <| .a 5 4 <|
      .p (does_c ((by have h := fcmp_ok (Sp.qn q) (Sp.qd q) (by have := Sp.qn_bd q; omega) (by have := Sp.qn_bd q; omega) (by have := Sp.qd_bd q; omega) (by have := Sp.qd_bd q; omega) (Sp.qn (((n : Int) : Rat) + ((1 : Int) : Rat))) (Sp.qd (((n : Int) : Rat) + ((1 : Int) : Rat))) (by have := Sp.qn_bd (((n : Int) : Rat) + ((1 : Int) : Rat)); omega) (by have := Sp.qn_bd (((n : Int) : Rat) + ((1 : Int) : Rat)); omega) (by have := Sp.qd_bd (((n : Int) : Rat) + ((1 : Int) : Rat)); omega) (by have := Sp.qd_bd (((n : Int) : Rat) + ((1 : Int) : Rat)); omega); rw [(Sp.rv_fit (q := q) fq), (Sp.rv_fit (q := (((n : Int) : Rat) + ((1 : Int) : Rat))) (Sp.bd_fit (Sp.Bd.add (Sp.Bd.mono (N' := 1000000000) (D' := 1) (Sp.Bd.int n) (by omega) (by decide)) (Sp.Bd.int 1)) (by decide) (by decide)))] at h; exact h))) <|
      .p (does_b (decide ((q) < (((n : Int) : Rat) + ((1 : Int) : Rat)))) ((Sp.rcmp_neg (q) (((n : Int) : Rat) + ((1 : Int) : Rat))))) <| .a 2 4 <| .nil _ _) ?_
    refine aw_rt ?_
    exact en_ret [.bool (decide ((q) < (((n : Int) : Rat) + ((1 : Int) : Rat))))] (show (.bool (decide ((q) < (((n : Int) : Rat) + ((1 : Int) : Rat)))) : Value) = (.bool (Sp.nearS p q n)) from (congrArg Value.bool (show (decide ((q) < (((n : Int) : Rat) + ((1 : Int) : Rat)))) = (Sp.nearS p q n) from by (simp only [Sp.nearS, *, decide_true, decide_false, Bool.true_and, Bool.false_and, Bool.and_false, Bool.and_true]))))
  · have h1p : ¬ (((((n : Int) : Rat) + (-((1 : Int) : Rat))) < (p))) := by first | (simpa using h1) | (have h1q := h1; simp at h1q; omega) | (have h1q := bx2 h1; simp at h1q; omega)
    refine aw_p 31 (
      .a 10 4 <|
      .p (does_c ((by have h := fcmp_ok (Sp.qn (((n : Int) : Rat) + (-((1 : Int) : Rat)))) (Sp.qd (((n : Int) : Rat) + (-((1 : Int) : Rat)))) (by have := Sp.qn_bd (((n : Int) : Rat) + (-((1 : Int) : Rat))); omega) (by have := Sp.qn_bd (((n : Int) : Rat) + (-((1 : Int) : Rat))); omega) (by have := Sp.qd_bd (((n : Int) : Rat) + (-((1 : Int) : Rat))); omega) (by have := Sp.qd_bd (((n : Int) : Rat) + (-((1 : Int) : Rat))); omega) (Sp.qn p) (Sp.qd p) (by have := Sp.qn_bd p; omega) (by have := Sp.qn_bd p; omega) (by have := Sp.qd_bd p; omega) (by have := Sp.qd_bd p; omega); rw [(Sp.rv_fit (q := (((n : Int) : Rat) + (-((1 : Int) : Rat)))) (Sp.bd_fit (Sp.Bd.add (Sp.Bd.mono (N' := 1000000000) (D' := 1) (Sp.Bd.int n) (by omega) (by decide)) (Sp.Bd.neg (Sp.Bd.int 1))) (by decide) (by decide))), (Sp.rv_fit (q := p) fp)] at h; exact h))) <|
      .p (does_b false (((Sp.rcmp_neg (((n : Int) : Rat) + (-((1 : Int) : Rat))) (p))).trans (h1))) <| .a 9 4 <| .nil _ _) ?_
    refine aw_rt ?_
    exact en_ret [.bool false] (show (.bool false : Value) = (.bool (Sp.nearS p q n)) from (congrArg Value.bool (show false = (Sp.nearS p q n) from by (simp only [Sp.nearS, *, decide_true, decide_false, Bool.true_and, Bool.false_and, Bool.and_false, Bool.and_true]))))


end Go.Proofs.Ytcokagabchjilaa.Am
