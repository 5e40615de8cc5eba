/-
  Spans: form and ends.
-/
import Derived.Test.YtcokagabchjilaaGreatProg
import Derived.Test.YtcokagabchjilaaGreatAm16
import Derived.Test.YtcokagabchjilaaGreatFr4
import Derived.Test.YtcokagabchjilaaGreatNc7
namespace Go.Proofs.YtcokagabchjilaaGreat.Am
open Go Go.Proofs
set_option maxRecDepth 100000
set_option maxHeartbeats 4000000
set_option linter.unusedVariables false
set_option linter.unusedSimpArgs false

theorem sgood_ok (n1 d1 : Int) (zln1 : -9223372036854775808 ≤ n1) (zun1 : n1 ≤ 9223372036854775807) (zld1 : -9223372036854775808 ≤ d1) (zud1 : d1 ≤ 9223372036854775807) (n2 d2 : Int) (zln2 : -9223372036854775808 ≤ n2) (zun2 : n2 ≤ 9223372036854775807) (zld2 : -9223372036854775808 ≤ d2) (zud2 : d2 ≤ 9223372036854775807) :
    AC Tryz.prog 68 0 ([.agg #[.int .i64 n1, .int .i64 d1, .int .i64 n2, .int .i64 d2]]) [] (.bool (Sp.sgS n1 d1 n2 d2)) [] := by
  refine ac_in Tryz.func68 (fun w0 W pin => ?_)
  refine aw_p 3 (
    .a 2 1 <| .nil _ _) ?_
  rcases Bool.eq_false_or_eq_true (Sp.gd n1 d1) with h1 | h1
  · have h1p : (Sp.gd n1 d1) = true := by simpa using h1
    rcases Bool.eq_false_or_eq_true (Sp.gd n2 d2) with h2 | h2
    · have h2p : (Sp.gd n2 d2) = true := by simpa using h2
      refine aw_p 7 (
        .a 2 2 <| .p (does_cb _ (fgood_ok n1 d1 (by omega) (by omega) (by omega) (by omega)) true (h1)) <| .a 3 2 <| .p (does_cb _ (fgood_ok n2 d2 (by omega) (by omega) (by omega) (by omega)) true (h2)) <| .a 6 2 <|
        .p (does_c (fcmp_ok n1 d1 (by omega) (by omega) (by omega) (by omega) n2 d2 (by omega) (by omega) (by omega) (by omega))) <| .p (does_b (decide ((Sp.rv n1 d1) ≤ (Sp.rv n2 d2))) ((Sp.rcmp_le (Sp.rv n1 d1) (Sp.rv n2 d2)))) <| .a 2 2 <| .nil _ _) ?_
      refine aw_rt ?_
      exact en_ret [.bool (decide ((Sp.rv n1 d1) ≤ (Sp.rv n2 d2)))] (show (.bool (decide ((Sp.rv n1 d1) ≤ (Sp.rv n2 d2))) : Value) = (.bool (Sp.sgS n1 d1 n2 d2)) from (congrArg Value.bool (show (decide ((Sp.rv n1 d1) ≤ (Sp.rv n2 d2))) = (Sp.sgS n1 d1 n2 d2) from by (simp only [Sp.sgS, *, decide_true, decide_false, Bool.true_and, Bool.false_and, Bool.and_false, Bool.and_true]))))
    · have h2p : ¬ (Sp.gd n2 d2) = true := by simpa using h2
      refine aw_p 7 (
        .a 2 2 <| .p (does_cb _ (fgood_ok n1 d1 (by omega) (by omega) (by omega) (by omega)) true (h1)) <| .a 3 2 <| .p (does_cb _ (fgood_ok n2 d2 (by omega) (by omega) (by omega) (by omega)) false (h2)) <| .a 10 2 <| .nil _ _) ?_
      refine aw_rt ?_
      exact en_ret [.bool false] (show (.bool false : Value) = (.bool (Sp.sgS n1 d1 n2 d2)) from (congrArg Value.bool (show false = (Sp.sgS n1 d1 n2 d2) from by (simp only [Sp.sgS, *, decide_true, decide_false, Bool.true_and, Bool.false_and, Bool.and_false, Bool.and_true]))))
  · have h1p : ¬ (Sp.gd n1 d1) = true := by simpa using h1
    refine aw_p 7 (
      .a 2 2 <| .p (does_cb _ (fgood_ok n1 d1 (by omega) (by omega) (by omega) (by omega)) false (h1)) <| .a 14 2 <| .nil _ _) ?_
    refine aw_rt ?_
    exact en_ret [.bool false] (show (.bool false : Value) = (.bool (Sp.sgS n1 d1 n2 d2)) from (congrArg Value.bool (show false = (Sp.sgS n1 d1 n2 d2) from by (simp only [Sp.sgS, *, decide_true, decide_false, Bool.true_and, Bool.false_and, Bool.and_false, Bool.and_true]))))

theorem sof_ok (n1 d1 : Int) (zln1 : -9223372036854775808 ≤ n1) (zun1 : n1 ≤ 9223372036854775807) (zld1 : -9223372036854775808 ≤ d1) (zud1 : d1 ≤ 9223372036854775807) :
    AC Tryz.prog 64 0 ([.agg #[.int .i64 n1, .int .i64 d1]]) [] (.agg #[.int .i64 (Sp.qn (Sp.rv n1 d1)), .int .i64 (Sp.qd (Sp.rv n1 d1)), .int .i64 (Sp.qn (Sp.rv n1 d1)), .int .i64 (Sp.qd (Sp.rv n1 d1))]) [] := by
  refine ac_in Tryz.func64 (fun w0 W pin => ?_)
  refine aw_p 3 (
    .a 2 1 <| .nil _ _) ?_
  refine aw_p 7 (
    .a 2 3 <| .p (does_c ((by have h := fmin_ok n1 d1 (by omega) (by omega) (by omega) (by omega) n1 d1 (by omega) (by omega) (by omega) (by omega); rw [Sp.rmin_self (Sp.rv n1 d1)] at h; exact h))) <| .a 1 3 <| .nil _ _) ?_
  refine aw_p 15 (
    .a 4 3 <| .nil _ _) ?_
  refine aw_rt ?_
  exact en_ret [.agg #[.int .i64 (Sp.qn (Sp.rv n1 d1)), .int .i64 (Sp.qd (Sp.rv n1 d1)), .int .i64 (Sp.qn (Sp.rv n1 d1)), .int .i64 (Sp.qd (Sp.rv n1 d1))]] (by kernel_rfl)

theorem sfit_ok (n1 d1 : Int) (zln1 : -9223372036854775808 ≤ n1) (zun1 : n1 ≤ 9223372036854775807) (zld1 : -9223372036854775808 ≤ d1) (zud1 : d1 ≤ 9223372036854775807) (n2 d2 : Int) (zln2 : -9223372036854775808 ≤ n2) (zun2 : n2 ≤ 9223372036854775807) (zld2 : -9223372036854775808 ≤ d2) (zud2 : d2 ≤ 9223372036854775807) :
    AC Tryz.prog 37 0 ([.agg #[.int .i64 n1, .int .i64 d1, .int .i64 n2, .int .i64 d2]]) [] (.agg #[.int .i64 (Sp.qn (Sp.sl n1 d1 n2 d2)), .int .i64 (Sp.qd (Sp.sl n1 d1 n2 d2)), .int .i64 (Sp.qn (Sp.sh n1 d1 n2 d2)), .int .i64 (Sp.qd (Sp.sh n1 d1 n2 d2))]) [] := by
  refine ac_in Tryz.func37 (fun w0 W pin => ?_)
  refine aw_p 3 (
    .a 2 1 <| .nil _ _) ?_
  refine aw_sq 6 7 ?_
  refine aw_p 13 (
    .a 1 3 <| .p (does_c (sgood_ok n1 d1 (by omega) (by omega) (by omega) (by omega) n2 d2 (by omega) (by omega) (by omega) (by omega))) <| .a 1 3 <| .nil _ _) ?_
  refine aw_cd 26 27 (!(Sp.sgS n1 d1 n2 d2)) (fun h1 => ?_) (fun h1 => ?_)
  · have h1p : ¬ (Sp.sgS n1 d1 n2 d2) = true := by simpa using h1
    refine aw_p 53 (
      .p (does_c (fof_ok 0)) <| .p (does_c ((by have h := sof_ok 0 1 (by decide) (by decide) (by decide) (by decide); rw [(Sp.rv_int 0 (by decide))] at h; exact h))) <| .a 1 3 <| .nil _ _) ?_
    refine aw_rt ?_
    refine then_ret ?_
    exact en_ret [.agg #[.int .i64 (Sp.qn ((0 : Int) : Rat)), .int .i64 (Sp.qd ((0 : Int) : Rat)), .int .i64 (Sp.qn ((0 : Int) : Rat)), .int .i64 (Sp.qd ((0 : Int) : Rat))]] (show (.agg #[.int .i64 (Sp.qn ((0 : Int) : Rat)), .int .i64 (Sp.qd ((0 : Int) : Rat)), .int .i64 (Sp.qn ((0 : Int) : Rat)), .int .i64 (Sp.qd ((0 : Int) : Rat))] : Value) = (.agg #[.int .i64 (Sp.qn (Sp.sl n1 d1 n2 d2)), .int .i64 (Sp.qd (Sp.sl n1 d1 n2 d2)), .int .i64 (Sp.qn (Sp.sh n1 d1 n2 d2)), .int .i64 (Sp.qd (Sp.sh n1 d1 n2 d2))]) from (congrArg (fun z : List Value => Value.agg z.toArray) (lcons (congrArg (Value.int .i64) (show (Sp.qn ((0 : Int) : Rat)) = (Sp.qn (Sp.sl n1 d1 n2 d2)) from by (first | exact (Sp.sl_yes zln1 zun1 zud1 zln2 zun2 zud2 h1p).1 | exact (Sp.sl_yes zln1 zun1 zud1 zln2 zun2 zud2 h1p).2.1 | exact (Sp.sl_yes zln1 zun1 zud1 zln2 zun2 zud2 h1p).2.2.1 | exact (Sp.sl_yes zln1 zun1 zud1 zln2 zun2 zud2 h1p).2.2.2 | exact (Sp.sl_no' h1p).1.symm | exact (Sp.sl_no' h1p).2.1.symm | exact (Sp.sl_no' h1p).2.2.1.symm | exact (Sp.sl_no' h1p).2.2.2.symm | (rw [(Sp.sl_no h1p).1]) | (rw [(Sp.sl_no h1p).2])))) (lcons (congrArg (Value.int .i64) (show (Sp.qd ((0 : Int) : Rat)) = (Sp.qd (Sp.sl n1 d1 n2 d2)) from by (first | exact (Sp.sl_yes zln1 zun1 zud1 zln2 zun2 zud2 h1p).1 | exact (Sp.sl_yes zln1 zun1 zud1 zln2 zun2 zud2 h1p).2.1 | exact (Sp.sl_yes zln1 zun1 zud1 zln2 zun2 zud2 h1p).2.2.1 | exact (Sp.sl_yes zln1 zun1 zud1 zln2 zun2 zud2 h1p).2.2.2 | exact (Sp.sl_no' h1p).1.symm | exact (Sp.sl_no' h1p).2.1.symm | exact (Sp.sl_no' h1p).2.2.1.symm | exact (Sp.sl_no' h1p).2.2.2.symm | (rw [(Sp.sl_no h1p).1]) | (rw [(Sp.sl_no h1p).2])))) (lcons (congrArg (Value.int .i64) (show (Sp.qn ((0 : Int) : Rat)) = (Sp.qn (Sp.sh n1 d1 n2 d2)) from by (first | exact (Sp.sl_yes zln1 zun1 zud1 zln2 zun2 zud2 h1p).1 | exact (Sp.sl_yes zln1 zun1 zud1 zln2 zun2 zud2 h1p).2.1 | exact (Sp.sl_yes zln1 zun1 zud1 zln2 zun2 zud2 h1p).2.2.1 | exact (Sp.sl_yes zln1 zun1 zud1 zln2 zun2 zud2 h1p).2.2.2 | exact (Sp.sl_no' h1p).1.symm | exact (Sp.sl_no' h1p).2.1.symm | exact (Sp.sl_no' h1p).2.2.1.symm | exact (Sp.sl_no' h1p).2.2.2.symm | (rw [(Sp.sl_no h1p).1]) | (rw [(Sp.sl_no h1p).2])))) (lcons (congrArg (Value.int .i64) (show (Sp.qd ((0 : Int) : Rat)) = (Sp.qd (Sp.sh n1 d1 n2 d2)) from by (first | exact (Sp.sl_yes zln1 zun1 zud1 zln2 zun2 zud2 h1p).1 | exact (Sp.sl_yes zln1 zun1 zud1 zln2 zun2 zud2 h1p).2.1 | exact (Sp.sl_yes zln1 zun1 zud1 zln2 zun2 zud2 h1p).2.2.1 | exact (Sp.sl_yes zln1 zun1 zud1 zln2 zun2 zud2 h1p).2.2.2 | exact (Sp.sl_no' h1p).1.symm | exact (Sp.sl_no' h1p).2.1.symm | exact (Sp.sl_no' h1p).2.2.1.symm | exact (Sp.sl_no' h1p).2.2.2.symm | (rw [(Sp.sl_no h1p).1]) | (rw [(Sp.sl_no h1p).2])))) rfl))))))
  · have h1p : (Sp.sgS n1 d1 n2 d2) = true := by simpa using h1
    refine aw_sk ?_
    refine then_normal ?_
    refine aw_p 15 (
      .a 2 3 <| .nil _ _) ?_
    refine aw_rt ?_
    exact en_ret [.agg #[.int .i64 n1, .int .i64 d1, .int .i64 n2, .int .i64 d2]] (show (.agg #[.int .i64 n1, .int .i64 d1, .int .i64 n2, .int .i64 d2] : Value) = (.agg #[.int .i64 (Sp.qn (Sp.sl n1 d1 n2 d2)), .int .i64 (Sp.qd (Sp.sl n1 d1 n2 d2)), .int .i64 (Sp.qn (Sp.sh n1 d1 n2 d2)), .int .i64 (Sp.qd (Sp.sh n1 d1 n2 d2))]) from (congrArg (fun z : List Value => Value.agg z.toArray) (lcons (congrArg (Value.int .i64) (show n1 = (Sp.qn (Sp.sl n1 d1 n2 d2)) from by (first | exact (Sp.sl_yes zln1 zun1 zud1 zln2 zun2 zud2 h1p).1 | exact (Sp.sl_yes zln1 zun1 zud1 zln2 zun2 zud2 h1p).2.1 | exact (Sp.sl_yes zln1 zun1 zud1 zln2 zun2 zud2 h1p).2.2.1 | exact (Sp.sl_yes zln1 zun1 zud1 zln2 zun2 zud2 h1p).2.2.2 | exact (Sp.sl_no' h1p).1.symm | exact (Sp.sl_no' h1p).2.1.symm | exact (Sp.sl_no' h1p).2.2.1.symm | exact (Sp.sl_no' h1p).2.2.2.symm | (rw [(Sp.sl_no h1p).1]) | (rw [(Sp.sl_no h1p).2])))) (lcons (congrArg (Value.int .i64) (show d1 = (Sp.qd (Sp.sl n1 d1 n2 d2)) from by (first | exact (Sp.sl_yes zln1 zun1 zud1 zln2 zun2 zud2 h1p).1 | exact (Sp.sl_yes zln1 zun1 zud1 zln2 zun2 zud2 h1p).2.1 | exact (Sp.sl_yes zln1 zun1 zud1 zln2 zun2 zud2 h1p).2.2.1 | exact (Sp.sl_yes zln1 zun1 zud1 zln2 zun2 zud2 h1p).2.2.2 | exact (Sp.sl_no' h1p).1.symm | exact (Sp.sl_no' h1p).2.1.symm | exact (Sp.sl_no' h1p).2.2.1.symm | exact (Sp.sl_no' h1p).2.2.2.symm | (rw [(Sp.sl_no h1p).1]) | (rw [(Sp.sl_no h1p).2])))) (lcons (congrArg (Value.int .i64) (show n2 = (Sp.qn (Sp.sh n1 d1 n2 d2)) from by (first | exact (Sp.sl_yes zln1 zun1 zud1 zln2 zun2 zud2 h1p).1 | exact (Sp.sl_yes zln1 zun1 zud1 zln2 zun2 zud2 h1p).2.1 | exact (Sp.sl_yes zln1 zun1 zud1 zln2 zun2 zud2 h1p).2.2.1 | exact (Sp.sl_yes zln1 zun1 zud1 zln2 zun2 zud2 h1p).2.2.2 | exact (Sp.sl_no' h1p).1.symm | exact (Sp.sl_no' h1p).2.1.symm | exact (Sp.sl_no' h1p).2.2.1.symm | exact (Sp.sl_no' h1p).2.2.2.symm | (rw [(Sp.sl_no h1p).1]) | (rw [(Sp.sl_no h1p).2])))) (lcons (congrArg (Value.int .i64) (show d2 = (Sp.qd (Sp.sh n1 d1 n2 d2)) from by (first | exact (Sp.sl_yes zln1 zun1 zud1 zln2 zun2 zud2 h1p).1 | exact (Sp.sl_yes zln1 zun1 zud1 zln2 zun2 zud2 h1p).2.1 | exact (Sp.sl_yes zln1 zun1 zud1 zln2 zun2 zud2 h1p).2.2.1 | exact (Sp.sl_yes zln1 zun1 zud1 zln2 zun2 zud2 h1p).2.2.2 | exact (Sp.sl_no' h1p).1.symm | exact (Sp.sl_no' h1p).2.1.symm | exact (Sp.sl_no' h1p).2.2.1.symm | exact (Sp.sl_no' h1p).2.2.2.symm | (rw [(Sp.sl_no h1p).1]) | (rw [(Sp.sl_no h1p).2])))) rfl))))))

theorem around4T_ok (p q r s : Rat) (fp : Sp.fitq p = true) (fq : Sp.fitq q = true) (fr : Sp.fitq r = true) (fs : Sp.fitq s = true) :
    AC Tryz.prog 63 1 ([.slice (some ⟨0, 0, none⟩) 4 0, .bool true]) [(0, ⟨[.int .i64 (Sp.qn p), .int .i64 (Sp.qd p), .int .i64 (Sp.qn q), .int .i64 (Sp.qd q), .int .i64 (Sp.qn r), .int .i64 (Sp.qd r), .int .i64 (Sp.qn s), .int .i64 (Sp.qd s)], 32, true, 2⟩)] (.tuple #[.agg #[.int .i64 (Sp.qn (Sp.rmin (Sp.rmin (Sp.rmin p q) r) s)), .int .i64 (Sp.qd (Sp.rmin (Sp.rmin (Sp.rmin p q) r) s)), .int .i64 (Sp.qn (Sp.rmax (Sp.rmax (Sp.rmax p q) r) s)), .int .i64 (Sp.qd (Sp.rmax (Sp.rmax (Sp.rmax p q) r) s))], .int .i64 0]) [(0, ⟨[.int .i64 (Sp.qn p), .int .i64 (Sp.qd p), .int .i64 (Sp.qn q), .int .i64 (Sp.qd q), .int .i64 (Sp.qn r), .int .i64 (Sp.qd r), .int .i64 (Sp.qn s), .int .i64 (Sp.qd s)], 32, true, 2⟩)] := by
  refine ac_in Tryz.func63 (fun w0 W pin => ?_)
  refine aw_p 3 (
    .a 2 1 <| .nil _ _) ?_
  refine aw_sq 6 7 ?_
  refine aw_p 13 (
    .a 2 2 <| .nil _ _) ?_
  refine aw_fl 27 ?_
  refine aw_sk ?_
  refine then_normal ?_
  refine aw_p 15 (
    .a 3 2 <| .p (does_c ((by have h := sof_ok (Sp.qn p) (Sp.qd p) (by have := Sp.qn_bd p; omega) (by have := Sp.qn_bd p; omega) (by have := Sp.qd_bd p; omega) (by have := Sp.qd_bd p; omega); rw [(Sp.rv_fit (q := p) fp)] at h; exact h))) <| .a 2 2 <| .nil _ _) ?_
  refine aw_sq 30 31 ?_
  refine aw_p 61 (
    .a 3 3 <| .nil _ _) ?_
  refine aw_bl 0 123 ?_
  refine aw_lp 247 ?_
  refine al_round ?_
  refine aw_p 495 (
    .a 1 3 <| .nil _ _) ?_
  refine aw_sq 990 991 ?_
  refine aw_tr 1980 ?_
  refine aw_sk ?_
  refine then_normal ?_
  refine aw_sq 1982 1983 ?_
  refine aw_bl 1 3965 ?_
  refine aw_p 7931 (
    .a 4 3 <| .nil _ _) ?_
  refine aw_d1 (
    .a 3 4 <|
    .p (does_c ((by have h := (by have h := fmin_ok (Sp.qn (p)) (Sp.qd (p)) (by have := Sp.qn_bd (p); omega) (by have := Sp.qn_bd (p); omega) (by have := Sp.qd_bd (p); omega) (by have := Sp.qd_bd (p); omega) (Sp.qn p) (Sp.qd p) (by have := Sp.qn_bd p; omega) (by have := Sp.qn_bd p; omega) (by have := Sp.qd_bd p; omega) (by have := Sp.qd_bd p; omega); rw [(Sp.rv_fit (q := p) fp)] at h; exact h); rw [Sp.rmin_self (p)] at h; exact h))) <|
    .a 3 4 <|
    .p (does_c ((by have h := (by have h := fmax_ok (Sp.qn (p)) (Sp.qd (p)) (by have := Sp.qn_bd (p); omega) (by have := Sp.qn_bd (p); omega) (by have := Sp.qd_bd (p); omega) (by have := Sp.qd_bd (p); omega) (Sp.qn p) (Sp.qd p) (by have := Sp.qn_bd p; omega) (by have := Sp.qn_bd p; omega) (by have := Sp.qd_bd p; omega) (by have := Sp.qd_bd p; omega); rw [(Sp.rv_fit (q := p) fp)] at h; exact h); rw [Sp.rmax_self (p)] at h; exact h))) <|
    .a 2 4 <| .nil _ _) ?_
  refine block_normal ?_
  refine then_normal ?_
  refine aw_p1 (
    .a 2 4 <| .nil _ _) ?_
  refine then_normal ?_
  refine al_round ?_
  refine aw_p 495 (
    .a 1 4 <| .nil _ _) ?_
  refine aw_sq 990 991 ?_
  refine aw_tr 1980 ?_
  refine aw_sk ?_
  refine then_normal ?_
  refine aw_sq 1982 1983 ?_
  refine aw_bl 1 3965 ?_
  refine aw_p 7931 (
    .a 4 4 <| .nil _ _) ?_
  refine aw_d1 (
    .a 3 5 <|
    .p (does_c ((by have h := fmin_ok (Sp.qn (p)) (Sp.qd (p)) (by have := Sp.qn_bd (p); omega) (by have := Sp.qn_bd (p); omega) (by have := Sp.qd_bd (p); omega) (by have := Sp.qd_bd (p); omega) (Sp.qn q) (Sp.qd q) (by have := Sp.qn_bd q; omega) (by have := Sp.qn_bd q; omega) (by have := Sp.qd_bd q; omega) (by have := Sp.qd_bd q; omega); rw [(Sp.rv_fit (q := p) fp), (Sp.rv_fit (q := q) fq)] at h; exact h))) <|
    .a 3 5 <|
    .p (does_c ((by have h := fmax_ok (Sp.qn (p)) (Sp.qd (p)) (by have := Sp.qn_bd (p); omega) (by have := Sp.qn_bd (p); omega) (by have := Sp.qd_bd (p); omega) (by have := Sp.qd_bd (p); omega) (Sp.qn q) (Sp.qd q) (by have := Sp.qn_bd q; omega) (by have := Sp.qn_bd q; omega) (by have := Sp.qd_bd q; omega) (by have := Sp.qd_bd q; omega); rw [(Sp.rv_fit (q := p) fp), (Sp.rv_fit (q := q) fq)] at h; exact h))) <|
    .a 2 5 <| .nil _ _) ?_
  refine block_normal ?_
  refine then_normal ?_
  refine aw_p1 (
    .a 2 5 <| .nil _ _) ?_
  refine then_normal ?_
  refine al_round ?_
  refine aw_p 495 (
    .a 1 5 <| .nil _ _) ?_
  refine aw_sq 990 991 ?_
  refine aw_tr 1980 ?_
  refine aw_sk ?_
  refine then_normal ?_
  refine aw_sq 1982 1983 ?_
  refine aw_bl 1 3965 ?_
  refine aw_p 7931 (
    .a 4 5 <| .nil _ _) ?_
  refine aw_d1 (
    .a 3 6 <|
    .p (does_c ((by have h := fmin_ok (Sp.qn (Sp.rmin (p) (q))) (Sp.qd (Sp.rmin (p) (q))) (by have := Sp.qn_bd (Sp.rmin (p) (q)); omega) (by have := Sp.qn_bd (Sp.rmin (p) (q)); omega) (by have := Sp.qd_bd (Sp.rmin (p) (q)); omega) (by have := Sp.qd_bd (Sp.rmin (p) (q)); omega) (Sp.qn r) (Sp.qd r) (by have := Sp.qn_bd r; omega) (by have := Sp.qn_bd r; omega) (by have := Sp.qd_bd r; omega) (by have := Sp.qd_bd r; omega); rw [(Sp.rv_fit (q := (Sp.rmin (p) (q))) (Sp.fitq_min fp fq)), (Sp.rv_fit (q := r) fr)] at h; exact h))) <|
    .a 3 6 <|
    .p (does_c ((by have h := fmax_ok (Sp.qn (Sp.rmax (p) (q))) (Sp.qd (Sp.rmax (p) (q))) (by have := Sp.qn_bd (Sp.rmax (p) (q)); omega) (by have := Sp.qn_bd (Sp.rmax (p) (q)); omega) (by have := Sp.qd_bd (Sp.rmax (p) (q)); omega) (by have := Sp.qd_bd (Sp.rmax (p) (q)); omega) (Sp.qn r) (Sp.qd r) (by have := Sp.qn_bd r; omega) (by have := Sp.qn_bd r; omega) (by have := Sp.qd_bd r; omega) (by have := Sp.qd_bd r; omega); rw [(Sp.rv_fit (q := (Sp.rmax (p) (q))) (Sp.fitq_max fp fq)), (Sp.rv_fit (q := r) fr)] at h; exact h))) <|
    .a 2 6 <| .nil _ _) ?_
  refine block_normal ?_
  refine then_normal ?_
  refine aw_p1 (
    .a 2 6 <| .nil _ _) ?_
  refine then_normal ?_
  refine al_round ?_
  refine aw_p 495 (
    .a 1 6 <| .nil _ _) ?_
  refine aw_sq 990 991 ?_
  refine aw_tr 1980 ?_
  refine aw_sk ?_
  refine then_normal ?_
  refine aw_sq 1982 1983 ?_
  refine aw_bl 1 3965 ?_
  refine aw_p 7931 (
    .a 4 6 <| .nil _ _) ?_
  refine aw_d1 (
    .a 3 7 <|
    .p (does_c ((by have h := fmin_ok (Sp.qn (Sp.rmin (Sp.rmin (p) (q)) (r))) (Sp.qd (Sp.rmin (Sp.rmin (p) (q)) (r))) (by have := Sp.qn_bd (Sp.rmin (Sp.rmin (p) (q)) (r)); omega) (by have := Sp.qn_bd (Sp.rmin (Sp.rmin (p) (q)) (r)); omega) (by have := Sp.qd_bd (Sp.rmin (Sp.rmin (p) (q)) (r)); omega) (by have := Sp.qd_bd (Sp.rmin (Sp.rmin (p) (q)) (r)); omega) (Sp.qn s) (Sp.qd s) (by have := Sp.qn_bd s; omega) (by have := Sp.qn_bd s; omega) (by have := Sp.qd_bd s; omega) (by have := Sp.qd_bd s; omega); rw [(Sp.rv_fit (q := (Sp.rmin (Sp.rmin (p) (q)) (r))) (Sp.fitq_min (Sp.fitq_min fp fq) fr)), (Sp.rv_fit (q := s) fs)] at h; exact h))) <|
    .a 3 7 <|
    .p (does_c ((by have h := fmax_ok (Sp.qn (Sp.rmax (Sp.rmax (p) (q)) (r))) (Sp.qd (Sp.rmax (Sp.rmax (p) (q)) (r))) (by have := Sp.qn_bd (Sp.rmax (Sp.rmax (p) (q)) (r)); omega) (by have := Sp.qn_bd (Sp.rmax (Sp.rmax (p) (q)) (r)); omega) (by have := Sp.qd_bd (Sp.rmax (Sp.rmax (p) (q)) (r)); omega) (by have := Sp.qd_bd (Sp.rmax (Sp.rmax (p) (q)) (r)); omega) (Sp.qn s) (Sp.qd s) (by have := Sp.qn_bd s; omega) (by have := Sp.qn_bd s; omega) (by have := Sp.qd_bd s; omega) (by have := Sp.qd_bd s; omega); rw [(Sp.rv_fit (q := (Sp.rmax (Sp.rmax (p) (q)) (r))) (Sp.fitq_max (Sp.fitq_max fp fq) fr)), (Sp.rv_fit (q := s) fs)] at h; exact h))) <|
    .a 2 7 <| .nil _ _) ?_
  refine block_normal ?_
  refine then_normal ?_
  refine aw_p1 (
    .a 2 7 <| .nil _ _) ?_
  refine then_normal ?_
  refine al_round ?_
  refine aw_p 495 (
    .a 1 7 <| .nil _ _) ?_
  refine aw_sq 990 991 ?_
  refine aw_fl 1981 ?_
  refine aw_ex 0 ?_
  refine then_exit ?_
  refine then_exit ?_
  refine block_exit ?_
  refine then_normal ?_
  refine aw_p 63 (
    .a 3 7 <| .nil _ _) ?_
  refine aw_rt ?_
  exact en_ret [.agg #[.int .i64 (Sp.qn (Sp.rmin (Sp.rmin (Sp.rmin (p) (q)) (r)) (s))), .int .i64 (Sp.qd (Sp.rmin (Sp.rmin (Sp.rmin (p) (q)) (r)) (s))), .int .i64 (Sp.qn (Sp.rmax (Sp.rmax (Sp.rmax (p) (q)) (r)) (s))), .int .i64 (Sp.qd (Sp.rmax (Sp.rmax (Sp.rmax (p) (q)) (r)) (s)))], .int .i64 0] (show (.tuple #[.agg #[.int .i64 (Sp.qn (Sp.rmin (Sp.rmin (Sp.rmin (p) (q)) (r)) (s))), .int .i64 (Sp.qd (Sp.rmin (Sp.rmin (Sp.rmin (p) (q)) (r)) (s))), .int .i64 (Sp.qn (Sp.rmax (Sp.rmax (Sp.rmax (p) (q)) (r)) (s))), .int .i64 (Sp.qd (Sp.rmax (Sp.rmax (Sp.rmax (p) (q)) (r)) (s)))], .int .i64 0] : Value) = (.tuple #[.agg #[.int .i64 (Sp.qn (Sp.rmin (Sp.rmin (Sp.rmin p q) r) s)), .int .i64 (Sp.qd (Sp.rmin (Sp.rmin (Sp.rmin p q) r) s)), .int .i64 (Sp.qn (Sp.rmax (Sp.rmax (Sp.rmax p q) r) s)), .int .i64 (Sp.qd (Sp.rmax (Sp.rmax (Sp.rmax p q) r) s))], .int .i64 0]) from (congrArg (fun z : List Value => Value.tuple z.toArray) (lcons (congrArg (fun z : List Value => Value.agg z.toArray) (lcons (congrArg (Value.int .i64) (show (Sp.qn (Sp.rmin (Sp.rmin (Sp.rmin (p) (q)) (r)) (s))) = (Sp.qn (Sp.rmin (Sp.rmin (Sp.rmin p q) r) s)) from by rfl)) (lcons (congrArg (Value.int .i64) (show (Sp.qd (Sp.rmin (Sp.rmin (Sp.rmin (p) (q)) (r)) (s))) = (Sp.qd (Sp.rmin (Sp.rmin (Sp.rmin p q) r) s)) from by rfl)) (lcons (congrArg (Value.int .i64) (show (Sp.qn (Sp.rmax (Sp.rmax (Sp.rmax (p) (q)) (r)) (s))) = (Sp.qn (Sp.rmax (Sp.rmax (Sp.rmax p q) r) s)) from by rfl)) (lcons (congrArg (Value.int .i64) (show (Sp.qd (Sp.rmax (Sp.rmax (Sp.rmax (p) (q)) (r)) (s))) = (Sp.qd (Sp.rmax (Sp.rmax (Sp.rmax p q) r) s)) from by rfl)) rfl))))) (lcons rfl rfl))))

theorem around4F_ok (p q r s : Rat)  :
    AC Tryz.prog 63 1 ([.slice (some ⟨0, 0, none⟩) 4 0, .bool false]) [(0, ⟨[.int .i64 (Sp.qn p), .int .i64 (Sp.qd p), .int .i64 (Sp.qn q), .int .i64 (Sp.qd q), .int .i64 (Sp.qn r), .int .i64 (Sp.qd r), .int .i64 (Sp.qn s), .int .i64 (Sp.qd s)], 32, true, 2⟩)] (.tuple #[.agg #[.int .i64 0, .int .i64 0, .int .i64 0, .int .i64 0], .int .i64 2]) [(0, ⟨[.int .i64 (Sp.qn p), .int .i64 (Sp.qd p), .int .i64 (Sp.qn q), .int .i64 (Sp.qd q), .int .i64 (Sp.qn r), .int .i64 (Sp.qd r), .int .i64 (Sp.qn s), .int .i64 (Sp.qd s)], 32, true, 2⟩)] := by
  refine ac_in Tryz.func63 (fun w0 W pin => ?_)
  refine aw_p 3 (
    .a 2 1 <| .nil _ _) ?_
  refine aw_sq 6 7 ?_
  refine aw_p 13 (
    .a 2 2 <| .nil _ _) ?_
  refine aw_tr 26 ?_
  refine aw_p 53 (
    .a 3 2 <| .nil _ _) ?_
  refine aw_rt ?_
  refine then_ret ?_
  exact en_ret [.agg #[.int .i64 0, .int .i64 0, .int .i64 0, .int .i64 0], .int .i64 2] (by kernel_rfl)

theorem around2T_ok (p q : Rat) (fp : Sp.fitq p = true) (fq : Sp.fitq q = true) :
    AC Tryz.prog 63 1 ([.slice (some ⟨0, 0, none⟩) 2 0, .bool true]) [(0, ⟨[.int .i64 (Sp.qn p), .int .i64 (Sp.qd p), .int .i64 (Sp.qn q), .int .i64 (Sp.qd q)], 32, true, 2⟩)] (.tuple #[.agg #[.int .i64 (Sp.qn (Sp.rmin p q)), .int .i64 (Sp.qd (Sp.rmin p q)), .int .i64 (Sp.qn (Sp.rmax p q)), .int .i64 (Sp.qd (Sp.rmax p q))], .int .i64 0]) [(0, ⟨[.int .i64 (Sp.qn p), .int .i64 (Sp.qd p), .int .i64 (Sp.qn q), .int .i64 (Sp.qd q)], 32, true, 2⟩)] := by
  refine ac_in Tryz.func63 (fun w0 W pin => ?_)
  refine aw_p 3 (
    .a 2 1 <| .nil _ _) ?_
  refine aw_sq 6 7 ?_
  refine aw_p 13 (
    .a 2 2 <| .nil _ _) ?_
  refine aw_fl 27 ?_
  refine aw_sk ?_
  refine then_normal ?_
  refine aw_p 15 (
    .a 3 2 <| .p (does_c ((by have h := sof_ok (Sp.qn p) (Sp.qd p) (by have := Sp.qn_bd p; omega) (by have := Sp.qn_bd p; omega) (by have := Sp.qd_bd p; omega) (by have := Sp.qd_bd p; omega); rw [(Sp.rv_fit (q := p) fp)] at h; exact h))) <| .a 2 2 <| .nil _ _) ?_
  refine aw_sq 30 31 ?_
  refine aw_p 61 (
    .a 3 3 <| .nil _ _) ?_
  refine aw_bl 0 123 ?_
  refine aw_lp 247 ?_
  refine al_round ?_
  refine aw_p 495 (
    .a 1 3 <| .nil _ _) ?_
  refine aw_sq 990 991 ?_
  refine aw_tr 1980 ?_
  refine aw_sk ?_
  refine then_normal ?_
  refine aw_sq 1982 1983 ?_
  refine aw_bl 1 3965 ?_
  refine aw_p 7931 (
    .a 4 3 <| .nil _ _) ?_
  refine aw_d1 (
    .a 3 4 <|
    .p (does_c ((by have h := (by have h := fmin_ok (Sp.qn (p)) (Sp.qd (p)) (by have := Sp.qn_bd (p); omega) (by have := Sp.qn_bd (p); omega) (by have := Sp.qd_bd (p); omega) (by have := Sp.qd_bd (p); omega) (Sp.qn p) (Sp.qd p) (by have := Sp.qn_bd p; omega) (by have := Sp.qn_bd p; omega) (by have := Sp.qd_bd p; omega) (by have := Sp.qd_bd p; omega); rw [(Sp.rv_fit (q := p) fp)] at h; exact h); rw [Sp.rmin_self (p)] at h; exact h))) <|
    .a 3 4 <|
    .p (does_c ((by have h := (by have h := fmax_ok (Sp.qn (p)) (Sp.qd (p)) (by have := Sp.qn_bd (p); omega) (by have := Sp.qn_bd (p); omega) (by have := Sp.qd_bd (p); omega) (by have := Sp.qd_bd (p); omega) (Sp.qn p) (Sp.qd p) (by have := Sp.qn_bd p; omega) (by have := Sp.qn_bd p; omega) (by have := Sp.qd_bd p; omega) (by have := Sp.qd_bd p; omega); rw [(Sp.rv_fit (q := p) fp)] at h; exact h); rw [Sp.rmax_self (p)] at h; exact h))) <|
    .a 2 4 <| .nil _ _) ?_
  refine block_normal ?_
  refine then_normal ?_
  refine aw_p1 (
    .a 2 4 <| .nil _ _) ?_
  refine then_normal ?_
  refine al_round ?_
  refine aw_p 495 (
    .a 1 4 <| .nil _ _) ?_
  refine aw_sq 990 991 ?_
  refine aw_tr 1980 ?_
  refine aw_sk ?_
  refine then_normal ?_
  refine aw_sq 1982 1983 ?_
  refine aw_bl 1 3965 ?_
  refine aw_p 7931 (
    .a 4 4 <| .nil _ _) ?_
  refine aw_d1 (
    .a 3 5 <|
    .p (does_c ((by have h := fmin_ok (Sp.qn (p)) (Sp.qd (p)) (by have := Sp.qn_bd (p); omega) (by have := Sp.qn_bd (p); omega) (by have := Sp.qd_bd (p); omega) (by have := Sp.qd_bd (p); omega) (Sp.qn q) (Sp.qd q) (by have := Sp.qn_bd q; omega) (by have := Sp.qn_bd q; omega) (by have := Sp.qd_bd q; omega) (by have := Sp.qd_bd q; omega); rw [(Sp.rv_fit (q := p) fp), (Sp.rv_fit (q := q) fq)] at h; exact h))) <|
    .a 3 5 <|
    .p (does_c ((by have h := fmax_ok (Sp.qn (p)) (Sp.qd (p)) (by have := Sp.qn_bd (p); omega) (by have := Sp.qn_bd (p); omega) (by have := Sp.qd_bd (p); omega) (by have := Sp.qd_bd (p); omega) (Sp.qn q) (Sp.qd q) (by have := Sp.qn_bd q; omega) (by have := Sp.qn_bd q; omega) (by have := Sp.qd_bd q; omega) (by have := Sp.qd_bd q; omega); rw [(Sp.rv_fit (q := p) fp), (Sp.rv_fit (q := q) fq)] at h; exact h))) <|
    .a 2 5 <| .nil _ _) ?_
  refine block_normal ?_
  refine then_normal ?_
  refine aw_p1 (
    .a 2 5 <| .nil _ _) ?_
  refine then_normal ?_
  refine al_round ?_
  refine aw_p 495 (
    .a 1 5 <| .nil _ _) ?_
  refine aw_sq 990 991 ?_
  refine aw_fl 1981 ?_
  refine aw_ex 0 ?_
  refine then_exit ?_
  refine then_exit ?_
  refine block_exit ?_
  refine then_normal ?_
  refine aw_p 63 (
    .a 3 5 <| .nil _ _) ?_
  refine aw_rt ?_
  exact en_ret [.agg #[.int .i64 (Sp.qn (Sp.rmin (p) (q))), .int .i64 (Sp.qd (Sp.rmin (p) (q))), .int .i64 (Sp.qn (Sp.rmax (p) (q))), .int .i64 (Sp.qd (Sp.rmax (p) (q)))], .int .i64 0] (show (.tuple #[.agg #[.int .i64 (Sp.qn (Sp.rmin (p) (q))), .int .i64 (Sp.qd (Sp.rmin (p) (q))), .int .i64 (Sp.qn (Sp.rmax (p) (q))), .int .i64 (Sp.qd (Sp.rmax (p) (q)))], .int .i64 0] : Value) = (.tuple #[.agg #[.int .i64 (Sp.qn (Sp.rmin p q)), .int .i64 (Sp.qd (Sp.rmin p q)), .int .i64 (Sp.qn (Sp.rmax p q)), .int .i64 (Sp.qd (Sp.rmax p q))], .int .i64 0]) from (congrArg (fun z : List Value => Value.tuple z.toArray) (lcons (congrArg (fun z : List Value => Value.agg z.toArray) (lcons (congrArg (Value.int .i64) (show (Sp.qn (Sp.rmin (p) (q))) = (Sp.qn (Sp.rmin p q)) from by rfl)) (lcons (congrArg (Value.int .i64) (show (Sp.qd (Sp.rmin (p) (q))) = (Sp.qd (Sp.rmin p q)) from by rfl)) (lcons (congrArg (Value.int .i64) (show (Sp.qn (Sp.rmax (p) (q))) = (Sp.qn (Sp.rmax p q)) from by rfl)) (lcons (congrArg (Value.int .i64) (show (Sp.qd (Sp.rmax (p) (q))) = (Sp.qd (Sp.rmax p q)) from by rfl)) rfl))))) (lcons rfl rfl))))

theorem around2F_ok (p q : Rat)  :
    AC Tryz.prog 63 1 ([.slice (some ⟨0, 0, none⟩) 2 0, .bool false]) [(0, ⟨[.int .i64 (Sp.qn p), .int .i64 (Sp.qd p), .int .i64 (Sp.qn q), .int .i64 (Sp.qd q)], 32, true, 2⟩)] (.tuple #[.agg #[.int .i64 0, .int .i64 0, .int .i64 0, .int .i64 0], .int .i64 2]) [(0, ⟨[.int .i64 (Sp.qn p), .int .i64 (Sp.qd p), .int .i64 (Sp.qn q), .int .i64 (Sp.qd q)], 32, true, 2⟩)] := by
  refine ac_in Tryz.func63 (fun w0 W pin => ?_)
  refine aw_p 3 (
    .a 2 1 <| .nil _ _) ?_
  refine aw_sq 6 7 ?_
  refine aw_p 13 (
    .a 2 2 <| .nil _ _) ?_
  refine aw_tr 26 ?_
  refine aw_p 53 (
    .a 3 2 <| .nil _ _) ?_
  refine aw_rt ?_
  refine then_ret ?_
  exact en_ret [.agg #[.int .i64 0, .int .i64 0, .int .i64 0, .int .i64 0], .int .i64 2] (by kernel_rfl)


end Go.Proofs.YtcokagabchjilaaGreat.Am
