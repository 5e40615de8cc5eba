/-
  Spans: products, quotients, what is in them.
-/
import Derived.Test.YtcokagabchjilaaGreatProg
import Derived.Test.YtcokagabchjilaaGreatAm16
import Derived.Test.YtcokagabchjilaaGreatSn2
namespace Go.Proofs.YtcokagabchjilaaGreat.Am
open Go Go.Proofs
set_option maxRecDepth 100000
set_option maxHeartbeats 4000000
set_option linter.unusedVariables false
set_option linter.unusedSimpArgs false

theorem smul_ok (n1 d1 : Int) (zln1 : -9223372036854775808 ≤ n1) (zun1 : n1 ≤ 9223372036854775807) (zld1 : -9223372036854775808 ≤ d1) (zud1 : d1 ≤ 9223372036854775807) (n2 d2 : Int) (zln2 : -9223372036854775808 ≤ n2) (zun2 : n2 ≤ 9223372036854775807) (zld2 : -9223372036854775808 ≤ d2) (zud2 : d2 ≤ 9223372036854775807) (n3 d3 : Int) (zln3 : -9223372036854775808 ≤ n3) (zun3 : n3 ≤ 9223372036854775807) (zld3 : -9223372036854775808 ≤ d3) (zud3 : d3 ≤ 9223372036854775807) (n4 d4 : Int) (zln4 : -9223372036854775808 ≤ n4) (zun4 : n4 ≤ 9223372036854775807) (zld4 : -9223372036854775808 ≤ d4) (zud4 : d4 ≤ 9223372036854775807) :
    AC Tryz.prog 53 0 ([.agg #[.int .i64 n1, .int .i64 d1, .int .i64 n2, .int .i64 d2], .agg #[.int .i64 n3, .int .i64 d3, .int .i64 n4, .int .i64 d4]]) [] (.tuple #[.agg #[.int .i64 (Sp.m4n ((Sp.sl n1 d1 n2 d2) * (Sp.sl n3 d3 n4 d4)) ((Sp.sl n1 d1 n2 d2) * (Sp.sh n3 d3 n4 d4)) ((Sp.sh n1 d1 n2 d2) * (Sp.sl n3 d3 n4 d4)) ((Sp.sh n1 d1 n2 d2) * (Sp.sh n3 d3 n4 d4))), .int .i64 (Sp.m4d ((Sp.sl n1 d1 n2 d2) * (Sp.sl n3 d3 n4 d4)) ((Sp.sl n1 d1 n2 d2) * (Sp.sh n3 d3 n4 d4)) ((Sp.sh n1 d1 n2 d2) * (Sp.sl n3 d3 n4 d4)) ((Sp.sh n1 d1 n2 d2) * (Sp.sh n3 d3 n4 d4))), .int .i64 (Sp.x4n ((Sp.sl n1 d1 n2 d2) * (Sp.sl n3 d3 n4 d4)) ((Sp.sl n1 d1 n2 d2) * (Sp.sh n3 d3 n4 d4)) ((Sp.sh n1 d1 n2 d2) * (Sp.sl n3 d3 n4 d4)) ((Sp.sh n1 d1 n2 d2) * (Sp.sh n3 d3 n4 d4))), .int .i64 (Sp.x4d ((Sp.sl n1 d1 n2 d2) * (Sp.sl n3 d3 n4 d4)) ((Sp.sl n1 d1 n2 d2) * (Sp.sh n3 d3 n4 d4)) ((Sp.sh n1 d1 n2 d2) * (Sp.sl n3 d3 n4 d4)) ((Sp.sh n1 d1 n2 d2) * (Sp.sh n3 d3 n4 d4)))], .int .i64 (Sp.e4 ((Sp.sl n1 d1 n2 d2) * (Sp.sl n3 d3 n4 d4)) ((Sp.sl n1 d1 n2 d2) * (Sp.sh n3 d3 n4 d4)) ((Sp.sh n1 d1 n2 d2) * (Sp.sl n3 d3 n4 d4)) ((Sp.sh n1 d1 n2 d2) * (Sp.sh n3 d3 n4 d4)))]) [] := by
  refine ac_in Tryz.func53 (fun w0 W pin => ?_)
  refine aw_p 3 (
    .a 4 1 <| .nil _ _) ?_
  refine aw_p 7 (
    .a 2 4 <| .p (does_c (eachM_ok n1 d1 (by omega) (by omega) (by omega) (by omega) n2 d2 (by omega) (by omega) (by omega) (by omega) n3 d3 (by omega) (by omega) (by omega) (by omega) n4 d4 (by omega) (by omega) (by omega) (by omega))) <| .a 4 4 <| .nil _ _) ?_
  refine aw_rt ?_
  exact en_ret [.agg #[.int .i64 (Sp.m4n ((Sp.sl n1 d1 n2 d2) * (Sp.sl n3 d3 n4 d4)) ((Sp.sl n1 d1 n2 d2) * (Sp.sh n3 d3 n4 d4)) ((Sp.sh n1 d1 n2 d2) * (Sp.sl n3 d3 n4 d4)) ((Sp.sh n1 d1 n2 d2) * (Sp.sh n3 d3 n4 d4))), .int .i64 (Sp.m4d ((Sp.sl n1 d1 n2 d2) * (Sp.sl n3 d3 n4 d4)) ((Sp.sl n1 d1 n2 d2) * (Sp.sh n3 d3 n4 d4)) ((Sp.sh n1 d1 n2 d2) * (Sp.sl n3 d3 n4 d4)) ((Sp.sh n1 d1 n2 d2) * (Sp.sh n3 d3 n4 d4))), .int .i64 (Sp.x4n ((Sp.sl n1 d1 n2 d2) * (Sp.sl n3 d3 n4 d4)) ((Sp.sl n1 d1 n2 d2) * (Sp.sh n3 d3 n4 d4)) ((Sp.sh n1 d1 n2 d2) * (Sp.sl n3 d3 n4 d4)) ((Sp.sh n1 d1 n2 d2) * (Sp.sh n3 d3 n4 d4))), .int .i64 (Sp.x4d ((Sp.sl n1 d1 n2 d2) * (Sp.sl n3 d3 n4 d4)) ((Sp.sl n1 d1 n2 d2) * (Sp.sh n3 d3 n4 d4)) ((Sp.sh n1 d1 n2 d2) * (Sp.sl n3 d3 n4 d4)) ((Sp.sh n1 d1 n2 d2) * (Sp.sh n3 d3 n4 d4)))], .int .i64 (Sp.e4 ((Sp.sl n1 d1 n2 d2) * (Sp.sl n3 d3 n4 d4)) ((Sp.sl n1 d1 n2 d2) * (Sp.sh n3 d3 n4 d4)) ((Sp.sh n1 d1 n2 d2) * (Sp.sl n3 d3 n4 d4)) ((Sp.sh n1 d1 n2 d2) * (Sp.sh n3 d3 n4 d4)))] (by kernel_rfl)

theorem shas_ok (n1 d1 : Int) (zln1 : -9223372036854775808 ≤ n1) (zun1 : n1 ≤ 9223372036854775807) (zld1 : -9223372036854775808 ≤ d1) (zud1 : d1 ≤ 9223372036854775807) (n2 d2 : Int) (zln2 : -9223372036854775808 ≤ n2) (zun2 : n2 ≤ 9223372036854775807) (zld2 : -9223372036854775808 ≤ d2) (zud2 : d2 ≤ 9223372036854775807) (n3 d3 : Int) (zln3 : -9223372036854775808 ≤ n3) (zun3 : n3 ≤ 9223372036854775807) (zld3 : -9223372036854775808 ≤ d3) (zud3 : d3 ≤ 9223372036854775807) :
    AC Tryz.prog 10 0 ([.agg #[.int .i64 n1, .int .i64 d1, .int .i64 n2, .int .i64 d2], .agg #[.int .i64 n3, .int .i64 d3]]) [] (.bool (Sp.inS (Sp.sl n1 d1 n2 d2) (Sp.sh n1 d1 n2 d2) (Sp.rv n3 d3))) [] := by
  refine ac_in Tryz.func10 (fun w0 W pin => ?_)
  refine aw_p 3 (
    .a 3 1 <| .nil _ _) ?_
  refine aw_p 7 (
    .a 1 3 <| .p (does_c (sfit_ok n1 d1 (by omega) (by omega) (by omega) (by omega) n2 d2 (by omega) (by omega) (by omega) (by omega))) <| .a 1 3 <| .nil _ _) ?_
  rcases Bool.eq_false_or_eq_true (decide ((Sp.sl n1 d1 n2 d2) ≤ (Sp.rv n3 d3))) with h1 | h1
  · have h1p : (((Sp.sl n1 d1 n2 d2) ≤ (Sp.rv n3 d3))) := by first | (simpa using h1) | (have h1q := h1; simp at h1q; omega) | (have h1q := bx1 h1; simp at h1q; omega)
    refine aw_p 15 (
      .a 3 3 <|
      .p (does_c ((by have h := fcmp_ok (Sp.qn (Sp.sl n1 d1 n2 d2)) (Sp.qd (Sp.sl n1 d1 n2 d2)) (by have := Sp.qn_bd (Sp.sl n1 d1 n2 d2); omega) (by have := Sp.qn_bd (Sp.sl n1 d1 n2 d2); omega) (by have := Sp.qd_bd (Sp.sl n1 d1 n2 d2); omega) (by have := Sp.qd_bd (Sp.sl n1 d1 n2 d2); omega) n3 d3 (by omega) (by omega) (by omega) (by omega); rw [(Sp.rv_fit (q := (Sp.sl n1 d1 n2 d2)) (Sp.fit_sl (by omega) (by omega) (by omega)))] at h; exact h))) <|
      .p (does_b true (((Sp.rcmp_le (Sp.sl n1 d1 n2 d2) (Sp.rv n3 d3))).trans (h1))) <| .a 4 3 <|
      .p (does_c ((by have h := fcmp_ok n3 d3 (by omega) (by omega) (by omega) (by omega) (Sp.qn (Sp.sh n1 d1 n2 d2)) (Sp.qd (Sp.sh n1 d1 n2 d2)) (by have := Sp.qn_bd (Sp.sh n1 d1 n2 d2); omega) (by have := Sp.qn_bd (Sp.sh n1 d1 n2 d2); omega) (by have := Sp.qd_bd (Sp.sh n1 d1 n2 d2); omega) (by have := Sp.qd_bd (Sp.sh n1 d1 n2 d2); omega); rw [(Sp.rv_fit (q := (Sp.sh n1 d1 n2 d2)) (Sp.fit_sh (by omega) (by omega) (by omega)))] at h; exact h))) <|
      .p (does_b (decide ((Sp.rv n3 d3) ≤ (Sp.sh n1 d1 n2 d2))) ((Sp.rcmp_le (Sp.rv n3 d3) (Sp.sh n1 d1 n2 d2)))) <| .a 2 3 <| .nil _ _) ?_
    refine aw_rt ?_
    exact en_ret [.bool (decide ((Sp.rv n3 d3) ≤ (Sp.sh n1 d1 n2 d2)))] (show (.bool (decide ((Sp.rv n3 d3) ≤ (Sp.sh n1 d1 n2 d2))) : Value) = (.bool (Sp.inS (Sp.sl n1 d1 n2 d2) (Sp.sh n1 d1 n2 d2) (Sp.rv n3 d3))) from (congrArg Value.bool (show (decide ((Sp.rv n3 d3) ≤ (Sp.sh n1 d1 n2 d2))) = (Sp.inS (Sp.sl n1 d1 n2 d2) (Sp.sh n1 d1 n2 d2) (Sp.rv n3 d3)) from by (simp only [Sp.inS, *, decide_true, decide_false, Bool.true_and, Bool.false_and, Bool.and_false, Bool.and_true]))))
  · have h1p : ¬ (((Sp.sl n1 d1 n2 d2) ≤ (Sp.rv n3 d3))) := by first | (simpa using h1) | (have h1q := h1; simp at h1q; omega) | (have h1q := bx2 h1; simp at h1q; omega)
    refine aw_p 15 (
      .a 3 3 <|
      .p (does_c ((by have h := fcmp_ok (Sp.qn (Sp.sl n1 d1 n2 d2)) (Sp.qd (Sp.sl n1 d1 n2 d2)) (by have := Sp.qn_bd (Sp.sl n1 d1 n2 d2); omega) (by have := Sp.qn_bd (Sp.sl n1 d1 n2 d2); omega) (by have := Sp.qd_bd (Sp.sl n1 d1 n2 d2); omega) (by have := Sp.qd_bd (Sp.sl n1 d1 n2 d2); omega) n3 d3 (by omega) (by omega) (by omega) (by omega); rw [(Sp.rv_fit (q := (Sp.sl n1 d1 n2 d2)) (Sp.fit_sl (by omega) (by omega) (by omega)))] at h; exact h))) <|
      .p (does_b false (((Sp.rcmp_le (Sp.sl n1 d1 n2 d2) (Sp.rv n3 d3))).trans (h1))) <| .a 8 3 <| .nil _ _) ?_
    refine aw_rt ?_
    exact en_ret [.bool false] (show (.bool false : Value) = (.bool (Sp.inS (Sp.sl n1 d1 n2 d2) (Sp.sh n1 d1 n2 d2) (Sp.rv n3 d3))) from (congrArg Value.bool (show false = (Sp.inS (Sp.sl n1 d1 n2 d2) (Sp.sh n1 d1 n2 d2) (Sp.rv n3 d3)) from by (simp only [Sp.inS, *, decide_true, decide_false, Bool.true_and, Bool.false_and, Bool.and_false, Bool.and_true]))))

theorem sdivY_ok (n1 d1 : Int) (zln1 : -9223372036854775808 ≤ n1) (zun1 : n1 ≤ 9223372036854775807) (zld1 : -9223372036854775808 ≤ d1) (zud1 : d1 ≤ 9223372036854775807) (n2 d2 : Int) (zln2 : -9223372036854775808 ≤ n2) (zun2 : n2 ≤ 9223372036854775807) (zld2 : -9223372036854775808 ≤ d2) (zud2 : d2 ≤ 9223372036854775807) (n3 d3 : Int) (zln3 : -9223372036854775808 ≤ n3) (zun3 : n3 ≤ 9223372036854775807) (zld3 : -9223372036854775808 ≤ d3) (zud3 : d3 ≤ 9223372036854775807) (n4 d4 : Int) (zln4 : -9223372036854775808 ≤ n4) (zun4 : n4 ≤ 9223372036854775807) (zld4 : -9223372036854775808 ≤ d4) (zud4 : d4 ≤ 9223372036854775807) (hz : Sp.inS (Sp.sl n3 d3 n4 d4) (Sp.sh n3 d3 n4 d4) ((0 : Int) : Rat) = true) :
    AC Tryz.prog 29 0 ([.agg #[.int .i64 n1, .int .i64 d1, .int .i64 n2, .int .i64 d2], .agg #[.int .i64 n3, .int .i64 d3, .int .i64 n4, .int .i64 d4]]) [] (.tuple #[.agg #[.int .i64 0, .int .i64 0, .int .i64 0, .int .i64 0], .int .i64 12]) [] := by
  skip
  refine ac_in Tryz.func29 (fun w0 W pin => ?_)
  refine aw_p 3 (
    .a 4 1 <| .nil _ _) ?_
  refine aw_sq 6 7 ?_
  refine aw_d 13 (
    .a 1 4 <| .p (does_c (fof_ok 0)) <| .p (does_cb _ ((by have h := shas_ok n3 d3 (by omega) (by omega) (by omega) (by omega) n4 d4 (by omega) (by omega) (by omega) (by omega) 0 1 (by decide) (by decide) (by decide) (by decide); rw [(Sp.rv_int 0 (by decide))] at h; exact h)) true (hz)) <| .nil _ _) ?_
  refine aw_tr 26 ?_
  refine aw_p 53 (
    .a 3 4 <| .nil _ _) ?_
  refine aw_rt ?_
  refine then_ret ?_
  exact en_ret [.agg #[.int .i64 0, .int .i64 0, .int .i64 0, .int .i64 0], .int .i64 12] (by kernel_rfl)

theorem sdivN_ok (n1 d1 : Int) (zln1 : -9223372036854775808 ≤ n1) (zun1 : n1 ≤ 9223372036854775807) (zld1 : -9223372036854775808 ≤ d1) (zud1 : d1 ≤ 9223372036854775807) (n2 d2 : Int) (zln2 : -9223372036854775808 ≤ n2) (zun2 : n2 ≤ 9223372036854775807) (zld2 : -9223372036854775808 ≤ d2) (zud2 : d2 ≤ 9223372036854775807) (n3 d3 : Int) (zln3 : -9223372036854775808 ≤ n3) (zun3 : n3 ≤ 9223372036854775807) (zld3 : -9223372036854775808 ≤ d3) (zud3 : d3 ≤ 9223372036854775807) (n4 d4 : Int) (zln4 : -9223372036854775808 ≤ n4) (zun4 : n4 ≤ 9223372036854775807) (zld4 : -9223372036854775808 ≤ d4) (zud4 : d4 ≤ 9223372036854775807) (hz : Sp.inS (Sp.sl n3 d3 n4 d4) (Sp.sh n3 d3 n4 d4) ((0 : Int) : Rat) = false) :
    AC Tryz.prog 29 0 ([.agg #[.int .i64 n1, .int .i64 d1, .int .i64 n2, .int .i64 d2], .agg #[.int .i64 n3, .int .i64 d3, .int .i64 n4, .int .i64 d4]]) [] (.tuple #[.agg #[.int .i64 (Sp.m4n ((Sp.sl n1 d1 n2 d2) / (Sp.sl n3 d3 n4 d4)) ((Sp.sl n1 d1 n2 d2) / (Sp.sh n3 d3 n4 d4)) ((Sp.sh n1 d1 n2 d2) / (Sp.sl n3 d3 n4 d4)) ((Sp.sh n1 d1 n2 d2) / (Sp.sh n3 d3 n4 d4))), .int .i64 (Sp.m4d ((Sp.sl n1 d1 n2 d2) / (Sp.sl n3 d3 n4 d4)) ((Sp.sl n1 d1 n2 d2) / (Sp.sh n3 d3 n4 d4)) ((Sp.sh n1 d1 n2 d2) / (Sp.sl n3 d3 n4 d4)) ((Sp.sh n1 d1 n2 d2) / (Sp.sh n3 d3 n4 d4))), .int .i64 (Sp.x4n ((Sp.sl n1 d1 n2 d2) / (Sp.sl n3 d3 n4 d4)) ((Sp.sl n1 d1 n2 d2) / (Sp.sh n3 d3 n4 d4)) ((Sp.sh n1 d1 n2 d2) / (Sp.sl n3 d3 n4 d4)) ((Sp.sh n1 d1 n2 d2) / (Sp.sh n3 d3 n4 d4))), .int .i64 (Sp.x4d ((Sp.sl n1 d1 n2 d2) / (Sp.sl n3 d3 n4 d4)) ((Sp.sl n1 d1 n2 d2) / (Sp.sh n3 d3 n4 d4)) ((Sp.sh n1 d1 n2 d2) / (Sp.sl n3 d3 n4 d4)) ((Sp.sh n1 d1 n2 d2) / (Sp.sh n3 d3 n4 d4)))], .int .i64 (Sp.e4 ((Sp.sl n1 d1 n2 d2) / (Sp.sl n3 d3 n4 d4)) ((Sp.sl n1 d1 n2 d2) / (Sp.sh n3 d3 n4 d4)) ((Sp.sh n1 d1 n2 d2) / (Sp.sl n3 d3 n4 d4)) ((Sp.sh n1 d1 n2 d2) / (Sp.sh n3 d3 n4 d4)))]) [] := by
  obtain ⟨nz1, nz2⟩ := Sp.in_nz (Sp.sl_le n3 d3 n4 d4) hz
  refine ac_in Tryz.func29 (fun w0 W pin => ?_)
  refine aw_p 3 (
    .a 4 1 <| .nil _ _) ?_
  refine aw_sq 6 7 ?_
  refine aw_d 13 (
    .a 1 4 <| .p (does_c (fof_ok 0)) <| .p (does_cb _ ((by have h := shas_ok n3 d3 (by omega) (by omega) (by omega) (by omega) n4 d4 (by omega) (by omega) (by omega) (by omega) 0 1 (by decide) (by decide) (by decide) (by decide); rw [(Sp.rv_int 0 (by decide))] at h; exact h)) false (hz)) <| .nil _ _) ?_
  refine aw_fl 27 ?_
  refine aw_sk ?_
  refine then_normal ?_
  refine aw_p 15 (
    .a 2 4 <| .p (does_c (eachD_ok n1 d1 (by omega) (by omega) (by omega) (by omega) n2 d2 (by omega) (by omega) (by omega) (by omega) n3 d3 (by omega) (by omega) (by omega) (by omega) n4 d4 (by omega) (by omega) (by omega) (by omega) nz1 nz2)) <| .a 4 4 <| .nil _ _) ?_
  refine aw_rt ?_
  exact en_ret [.agg #[.int .i64 (Sp.m4n ((Sp.sl n1 d1 n2 d2) / (Sp.sl n3 d3 n4 d4)) ((Sp.sl n1 d1 n2 d2) / (Sp.sh n3 d3 n4 d4)) ((Sp.sh n1 d1 n2 d2) / (Sp.sl n3 d3 n4 d4)) ((Sp.sh n1 d1 n2 d2) / (Sp.sh n3 d3 n4 d4))), .int .i64 (Sp.m4d ((Sp.sl n1 d1 n2 d2) / (Sp.sl n3 d3 n4 d4)) ((Sp.sl n1 d1 n2 d2) / (Sp.sh n3 d3 n4 d4)) ((Sp.sh n1 d1 n2 d2) / (Sp.sl n3 d3 n4 d4)) ((Sp.sh n1 d1 n2 d2) / (Sp.sh n3 d3 n4 d4))), .int .i64 (Sp.x4n ((Sp.sl n1 d1 n2 d2) / (Sp.sl n3 d3 n4 d4)) ((Sp.sl n1 d1 n2 d2) / (Sp.sh n3 d3 n4 d4)) ((Sp.sh n1 d1 n2 d2) / (Sp.sl n3 d3 n4 d4)) ((Sp.sh n1 d1 n2 d2) / (Sp.sh n3 d3 n4 d4))), .int .i64 (Sp.x4d ((Sp.sl n1 d1 n2 d2) / (Sp.sl n3 d3 n4 d4)) ((Sp.sl n1 d1 n2 d2) / (Sp.sh n3 d3 n4 d4)) ((Sp.sh n1 d1 n2 d2) / (Sp.sl n3 d3 n4 d4)) ((Sp.sh n1 d1 n2 d2) / (Sp.sh n3 d3 n4 d4)))], .int .i64 (Sp.e4 ((Sp.sl n1 d1 n2 d2) / (Sp.sl n3 d3 n4 d4)) ((Sp.sl n1 d1 n2 d2) / (Sp.sh n3 d3 n4 d4)) ((Sp.sh n1 d1 n2 d2) / (Sp.sl n3 d3 n4 d4)) ((Sp.sh n1 d1 n2 d2) / (Sp.sh n3 d3 n4 d4)))] (by kernel_rfl)


end Go.Proofs.YtcokagabchjilaaGreat.Am
