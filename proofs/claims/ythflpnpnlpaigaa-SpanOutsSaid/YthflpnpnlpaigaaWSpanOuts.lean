/-
  The walk of the law SpanOuts.
-/
import Derived.Test.YthflpnpnlpaigaaProg
import Derived.Test.YthflpnpnlpaigaaAm13
import Derived.Test.YthflpnpnlpaigaaSn5
namespace Go.Proofs.Ythflpnpnlpaigaa.Am
open Go Go.Proofs
set_option maxRecDepth 100000
set_option maxHeartbeats 4000000
set_option linter.unusedVariables false
set_option linter.unusedSimpArgs false

theorem spanOuts_walk (n1 d1 : Int) (zln1 : -9223372036854775808 ≤ n1) (zun1 : n1 ≤ 9223372036854775807) (zld1 : -9223372036854775808 ≤ d1) (zud1 : d1 ≤ 9223372036854775807) (n2 d2 : Int) (zln2 : -9223372036854775808 ≤ n2) (zun2 : n2 ≤ 9223372036854775807) (zld2 : -9223372036854775808 ≤ d2) (zud2 : d2 ≤ 9223372036854775807) (n : Int) (zln : -9223372036854775808 ≤ n) (zun : n ≤ 9223372036854775807) :
    AC Try.prog 9 0 ([.agg #[.int .i64 n1, .int .i64 d1, .int .i64 n2, .int .i64 d2], .int .i64 n]) [] (.bool true) [] := by
  refine ac_in Try.func9 (fun w0 W pin => ?_)
  refine aw_p 3 (
    .a 2 1 <| .nil _ _) ?_
  refine aw_sq 6 7 ?_
  refine aw_p 13 (
    .p (does_c (terrlaw1_spanBegun_ok)) <| .a 1 2 <| .nil _ _) ?_
  refine aw_fl 27 ?_
  refine aw_sk ?_
  refine then_normal ?_
  rcases Bool.eq_false_or_eq_true (decide (n < 1)) with h1 | h1
  · have h1p : ((n < 1)) := by first | (simpa using h1) | (have h1q := h1; simp at h1q; omega) | (have h1q := bx1 h1; simp at h1q; omega)
    refine aw_p 15 (
      .a 2 2 <| .p (does_c (soutA1_ok n1 d1 (by omega) (by omega) (by omega) (by omega) n2 d2 (by omega) (by omega) (by omega) (by omega) n (by omega) (by omega) (of_decide_eq_true h1))) <| .a 6 2 <| .nil _ _) ?_
    refine aw_sq 30 31 ?_
    refine aw_p 61 (
      .a 1 3 <| .p (does_b true (h1)) <| .a 4 3 <| .nil _ _) ?_
    refine aw_tr 122 ?_
    refine aw_p 245 (
      .a 2 3 <| .p (does_e true ((show (((0 == 0) && ((0 == 0) && true)) && (((0 == 0) && ((0 == 0) && true)) && true)) = true from by decide))) <| .a 5 3 <| .nil _ _) ?_
    refine aw_rt ?_
    refine then_ret ?_
    exact en_ret [.bool true] (by kernel_rfl)
  · have h1p : ¬ ((n < 1)) := by first | (simpa using h1) | (have h1q := h1; simp at h1q; omega) | (have h1q := bx2 h1; simp at h1q; omega)
    rcases Bool.eq_false_or_eq_true (decide (n > 1073741824)) with h2 | h2
    · have h2p : ((n > 1073741824)) := by first | (simpa using h2) | (have h2q := h2; simp at h2q; omega) | (have h2q := bx1 h2; simp at h2q; omega)
      refine aw_p 15 (
        .a 2 2 <| .p (does_c (soutA2_ok n1 d1 (by omega) (by omega) (by omega) (by omega) n2 d2 (by omega) (by omega) (by omega) (by omega) n (by omega) (by omega) (of_decide_eq_false h1) (of_decide_eq_true h2))) <| .a 6 2 <| .nil _ _) ?_
      refine aw_sq 30 31 ?_
      refine aw_p 61 (
        .a 1 3 <| .p (does_b false (h1)) <| .a 2 3 <| .p (does_b true (h2)) <| .a 1 3 <| .nil _ _) ?_
      refine aw_tr 122 ?_
      refine aw_p 245 (
        .a 2 3 <| .p (does_e true ((show (((0 == 0) && ((0 == 0) && true)) && (((0 == 0) && ((0 == 0) && true)) && true)) = true from by decide))) <| .a 5 3 <| .nil _ _) ?_
      refine aw_rt ?_
      refine then_ret ?_
      exact en_ret [.bool true] (by kernel_rfl)
    · have h2p : ¬ ((n > 1073741824)) := by first | (simpa using h2) | (have h2q := h2; simp at h2q; omega) | (have h2q := bx2 h2; simp at h2q; omega)
      rcases Bool.eq_false_or_eq_true (Sp.fitq ((Sp.sl n1 d1 n2 d2) * ((n : Int) : Rat))) with h3 | h3
      · have h3p : (Sp.fitq ((Sp.sl n1 d1 n2 d2) * ((n : Int) : Rat))) = true := by simpa using h3
        have flh3 := Sp.fl_fit h3p
        rcases Bool.eq_false_or_eq_true (Sp.fitq ((-(Sp.sh n1 d1 n2 d2)) * ((n : Int) : Rat))) with h4 | h4
        · have h4p : (Sp.fitq ((-(Sp.sh n1 d1 n2 d2)) * ((n : Int) : Rat))) = true := by simpa using h4
          have flh4 := Sp.fl_fit h4p
          refine aw_p 15 (
            .a 2 2 <| .p (does_c (soutC_ok n1 d1 (by omega) (by omega) (by omega) (by omega) n2 d2 (by omega) (by omega) (by omega) (by omega) n (by omega) (by omega) (of_decide_eq_false h1) (of_decide_eq_false h2) h3 h4)) <| .a 6 2 <| .nil _ _) ?_
          refine aw_sq 30 31 ?_
          refine aw_p 61 (
            .a 1 3 <| .p (does_b false (h1)) <| .a 2 3 <| .p (does_b false (h2)) <| .a 1 3 <| .nil _ _) ?_
          refine aw_fl 123 ?_
          refine aw_sk ?_
          refine then_normal ?_
          refine aw_p 63 (
            .a 1 3 <| .p (does_c (dgood_ok n1 d1 (by omega) (by omega) (by omega) (by omega) n2 d2 (by omega) (by omega) (by omega) (by omega))) <| .a 2 3 <| .nil _ _) ?_
          refine aw_p 127 (
            .a 4 4 <|
            .p (does_c ((by have h := rproduct_ok (Sp.qn (Sp.sl n1 d1 n2 d2)) (Sp.qd (Sp.sl n1 d1 n2 d2)) (by have := Sp.qn_bd (Sp.sl n1 d1 n2 d2); omega) (by have := Sp.qn_bd (Sp.sl n1 d1 n2 d2); omega) (by have := Sp.qd_bd (Sp.sl n1 d1 n2 d2); omega) (by have := Sp.qd_bd (Sp.sl n1 d1 n2 d2); omega) n 1 (by omega) (by omega) (by decide) (by decide); rw [(Sp.rv_fit (q := (Sp.sl n1 d1 n2 d2)) (Sp.fit_sl (by omega) (by omega) (by omega))), (Sp.rv_int n (by omega))] at h; exact h))) <|
            .a 6 4 <| .nil _ _) ?_
          refine aw_p 255 (
            .a 2 5 <|
            .p (does_c ((by have h := ropp_ok (Sp.qn (Sp.sh n1 d1 n2 d2)) (Sp.qd (Sp.sh n1 d1 n2 d2)) (by have := Sp.qn_bd (Sp.sh n1 d1 n2 d2); omega) (by have := Sp.qn_bd (Sp.sh n1 d1 n2 d2); omega) (by have := Sp.qd_bd (Sp.sh n1 d1 n2 d2); omega) (by have := Sp.qd_bd (Sp.sh n1 d1 n2 d2); omega); rw [(Sp.rv_fit (q := (Sp.sh n1 d1 n2 d2)) (Sp.fit_sh (by omega) (by omega) (by omega)))] at h; exact h))) <|
            .a 2 5 <|
            .p (does_c ((by have h := rproduct_ok (Sp.qn (-(Sp.sh n1 d1 n2 d2))) (Sp.qd (-(Sp.sh n1 d1 n2 d2))) (by have := Sp.qn_bd (-(Sp.sh n1 d1 n2 d2)); omega) (by have := Sp.qn_bd (-(Sp.sh n1 d1 n2 d2)); omega) (by have := Sp.qd_bd (-(Sp.sh n1 d1 n2 d2)); omega) (by have := Sp.qd_bd (-(Sp.sh n1 d1 n2 d2)); omega) n 1 (by omega) (by omega) (by decide) (by decide); rw [(Sp.rv_fit (q := (-(Sp.sh n1 d1 n2 d2))) (Sp.fitq_neg (Sp.fit_sh (by omega) (by omega) (by omega)))), (Sp.rv_int n (by omega))] at h; exact h))) <|
            .a 6 5 <| .nil _ _) ?_
          refine aw_sq 510 511 ?_
          refine aw_p 1021 (
            .a 1 6 <| .p (does_b false (((Sp.qe_ne0 ((Sp.sl n1 d1 n2 d2) * ((n : Int) : Rat)))).trans (not_t h3))) <| .a 2 6 <| .p (does_b false (((Sp.qe_ne0 ((-(Sp.sh n1 d1 n2 d2)) * ((n : Int) : Rat)))).trans (not_t h4))) <| .a 1 6 <| .nil _ _) ?_
          refine aw_fl 2043 ?_
          refine aw_sk ?_
          refine then_normal ?_
          refine aw_p 1023 (
            .a 1 6 <|
            .p (does_c ((by have h := rdown_ok (Sp.qn ((Sp.sl n1 d1 n2 d2) * ((n : Int) : Rat))) (Sp.qd ((Sp.sl n1 d1 n2 d2) * ((n : Int) : Rat))) (by have := Sp.qn_bd ((Sp.sl n1 d1 n2 d2) * ((n : Int) : Rat)); omega) (by have := Sp.qn_bd ((Sp.sl n1 d1 n2 d2) * ((n : Int) : Rat)); omega) (by have := Sp.qd_bd ((Sp.sl n1 d1 n2 d2) * ((n : Int) : Rat)); omega) (by have := Sp.qd_bd ((Sp.sl n1 d1 n2 d2) * ((n : Int) : Rat)); omega); rw [(Sp.rv_fit (q := ((Sp.sl n1 d1 n2 d2) * ((n : Int) : Rat))) (by assumption))] at h; exact h))) <|
            .p (does_c (llof_ok (Rat.floor ((Sp.sl n1 d1 n2 d2) * ((n : Int) : Rat))) (by omega) (by omega))) <| .a 1 6 <| .p (does_c (llof_ok n (by omega) (by omega))) <| .p (does_c (rratio_ok (Rat.floor ((Sp.sl n1 d1 n2 d2) * ((n : Int) : Rat))) n (by omega) (by omega) (by omega) (by omega))) <| .a 6 6 <| .nil _ _) ?_
          refine aw_p 2047 (
            .a 1 7 <|
            .p (does_c ((by have h := rdown_ok (Sp.qn ((-(Sp.sh n1 d1 n2 d2)) * ((n : Int) : Rat))) (Sp.qd ((-(Sp.sh n1 d1 n2 d2)) * ((n : Int) : Rat))) (by have := Sp.qn_bd ((-(Sp.sh n1 d1 n2 d2)) * ((n : Int) : Rat)); omega) (by have := Sp.qn_bd ((-(Sp.sh n1 d1 n2 d2)) * ((n : Int) : Rat)); omega) (by have := Sp.qd_bd ((-(Sp.sh n1 d1 n2 d2)) * ((n : Int) : Rat)); omega) (by have := Sp.qd_bd ((-(Sp.sh n1 d1 n2 d2)) * ((n : Int) : Rat)); omega); rw [(Sp.rv_fit (q := ((-(Sp.sh n1 d1 n2 d2)) * ((n : Int) : Rat))) (by assumption))] at h; exact h))) <|
            .p (does_c (llof_ok (Rat.floor ((-(Sp.sh n1 d1 n2 d2)) * ((n : Int) : Rat))) (by omega) (by omega))) <| .p (does_c (lneg_ok (Rat.floor ((-(Sp.sh n1 d1 n2 d2)) * ((n : Int) : Rat))))) <| .a 1 7 <| .p (does_c (llof_ok n (by omega) (by omega))) <|
            .p (does_c (rratio_ok (-(Rat.floor ((-(Sp.sh n1 d1 n2 d2)) * ((n : Int) : Rat)))) n (by omega) (by omega) (by omega) (by omega))) <| .a 6 7 <| .nil _ _) ?_
          refine aw_p 4095 (
            .a 7 8 <|
            .p (does_e true ((show ((((Sp.dvn ((Rat.floor ((Sp.sl n1 d1 n2 d2) * ((n : Int) : Rat)) : Int) : Rat) ((n : Int) : Rat)) == (Sp.dvn ((Rat.floor ((Sp.sl n1 d1 n2 d2) * ((n : Int) : Rat)) : Int) : Rat) ((n : Int) : Rat))) && (((Sp.dvd ((Rat.floor ((Sp.sl n1 d1 n2 d2) * ((n : Int) : Rat)) : Int) : Rat) ((n : Int) : Rat)) == (Sp.dvd ((Rat.floor ((Sp.sl n1 d1 n2 d2) * ((n : Int) : Rat)) : Int) : Rat) ((n : Int) : Rat))) && true)) && ((((Sp.dvn ((-Rat.floor ((-(Sp.sh n1 d1 n2 d2)) * ((n : Int) : Rat)) : Int) : Rat) ((n : Int) : Rat)) == (Sp.dvn ((-(Rat.floor ((-(Sp.sh n1 d1 n2 d2)) * ((n : Int) : Rat))) : Int) : Rat) ((n : Int) : Rat))) && (((Sp.dvd ((-Rat.floor ((-(Sp.sh n1 d1 n2 d2)) * ((n : Int) : Rat)) : Int) : Rat) ((n : Int) : Rat)) == (Sp.dvd ((-(Rat.floor ((-(Sp.sh n1 d1 n2 d2)) * ((n : Int) : Rat))) : Int) : Rat) ((n : Int) : Rat))) && true)) && true)) = true from by simp))) <|
            .a 2 8 <| .nil _ _) ?_
          refine aw_rt ?_
          exact en_ret [.bool true] (by kernel_rfl)
        · have h4p : ¬ (Sp.fitq ((-(Sp.sh n1 d1 n2 d2)) * ((n : Int) : Rat))) = true := by simpa using h4
          refine aw_p 15 (
            .a 2 2 <| .p (does_c (soutB2_ok n1 d1 (by omega) (by omega) (by omega) (by omega) n2 d2 (by omega) (by omega) (by omega) (by omega) n (by omega) (by omega) (of_decide_eq_false h1) (of_decide_eq_false h2) h3 h4)) <| .a 6 2 <| .nil _ _) ?_
          refine aw_sq 30 31 ?_
          refine aw_p 61 (
            .a 1 3 <| .p (does_b false (h1)) <| .a 2 3 <| .p (does_b false (h2)) <| .a 1 3 <| .nil _ _) ?_
          refine aw_fl 123 ?_
          refine aw_sk ?_
          refine then_normal ?_
          refine aw_p 63 (
            .a 1 3 <| .p (does_c (dgood_ok n1 d1 (by omega) (by omega) (by omega) (by omega) n2 d2 (by omega) (by omega) (by omega) (by omega))) <| .a 2 3 <| .nil _ _) ?_
          refine aw_p 127 (
            .a 4 4 <|
            .p (does_c ((by have h := rproduct_ok (Sp.qn (Sp.sl n1 d1 n2 d2)) (Sp.qd (Sp.sl n1 d1 n2 d2)) (by have := Sp.qn_bd (Sp.sl n1 d1 n2 d2); omega) (by have := Sp.qn_bd (Sp.sl n1 d1 n2 d2); omega) (by have := Sp.qd_bd (Sp.sl n1 d1 n2 d2); omega) (by have := Sp.qd_bd (Sp.sl n1 d1 n2 d2); omega) n 1 (by omega) (by omega) (by decide) (by decide); rw [(Sp.rv_fit (q := (Sp.sl n1 d1 n2 d2)) (Sp.fit_sl (by omega) (by omega) (by omega))), (Sp.rv_int n (by omega))] at h; exact h))) <|
            .a 6 4 <| .nil _ _) ?_
          refine aw_p 255 (
            .a 2 5 <|
            .p (does_c ((by have h := ropp_ok (Sp.qn (Sp.sh n1 d1 n2 d2)) (Sp.qd (Sp.sh n1 d1 n2 d2)) (by have := Sp.qn_bd (Sp.sh n1 d1 n2 d2); omega) (by have := Sp.qn_bd (Sp.sh n1 d1 n2 d2); omega) (by have := Sp.qd_bd (Sp.sh n1 d1 n2 d2); omega) (by have := Sp.qd_bd (Sp.sh n1 d1 n2 d2); omega); rw [(Sp.rv_fit (q := (Sp.sh n1 d1 n2 d2)) (Sp.fit_sh (by omega) (by omega) (by omega)))] at h; exact h))) <|
            .a 2 5 <|
            .p (does_c ((by have h := rproduct_ok (Sp.qn (-(Sp.sh n1 d1 n2 d2))) (Sp.qd (-(Sp.sh n1 d1 n2 d2))) (by have := Sp.qn_bd (-(Sp.sh n1 d1 n2 d2)); omega) (by have := Sp.qn_bd (-(Sp.sh n1 d1 n2 d2)); omega) (by have := Sp.qd_bd (-(Sp.sh n1 d1 n2 d2)); omega) (by have := Sp.qd_bd (-(Sp.sh n1 d1 n2 d2)); omega) n 1 (by omega) (by omega) (by decide) (by decide); rw [(Sp.rv_fit (q := (-(Sp.sh n1 d1 n2 d2))) (Sp.fitq_neg (Sp.fit_sh (by omega) (by omega) (by omega)))), (Sp.rv_int n (by omega))] at h; exact h))) <|
            .a 6 5 <| .nil _ _) ?_
          refine aw_sq 510 511 ?_
          refine aw_p 1021 (
            .a 1 6 <| .p (does_b false (((Sp.qe_ne0 ((Sp.sl n1 d1 n2 d2) * ((n : Int) : Rat)))).trans (not_t h3))) <| .a 2 6 <| .p (does_b true (((Sp.qe_ne0 ((-(Sp.sh n1 d1 n2 d2)) * ((n : Int) : Rat)))).trans (not_f h4))) <| .a 1 6 <| .nil _ _) ?_
          refine aw_tr 2042 ?_
          refine aw_p 4085 (
            .a 2 6 <| .p (does_e true ((show (((0 == 0) && ((0 == 0) && true)) && (((0 == 0) && ((0 == 0) && true)) && true)) = true from by decide))) <| .a 5 6 <| .nil _ _) ?_
          refine aw_rt ?_
          refine then_ret ?_
          exact en_ret [.bool true] (by kernel_rfl)
      · have h3p : ¬ (Sp.fitq ((Sp.sl n1 d1 n2 d2) * ((n : Int) : Rat))) = true := by simpa using h3
        refine aw_p 15 (
          .a 2 2 <| .p (does_c (soutB1_ok n1 d1 (by omega) (by omega) (by omega) (by omega) n2 d2 (by omega) (by omega) (by omega) (by omega) n (by omega) (by omega) (of_decide_eq_false h1) (of_decide_eq_false h2) h3)) <| .a 6 2 <| .nil _ _) ?_
        refine aw_sq 30 31 ?_
        refine aw_p 61 (
          .a 1 3 <| .p (does_b false (h1)) <| .a 2 3 <| .p (does_b false (h2)) <| .a 1 3 <| .nil _ _) ?_
        refine aw_fl 123 ?_
        refine aw_sk ?_
        refine then_normal ?_
        refine aw_p 63 (
          .a 1 3 <| .p (does_c (dgood_ok n1 d1 (by omega) (by omega) (by omega) (by omega) n2 d2 (by omega) (by omega) (by omega) (by omega))) <| .a 2 3 <| .nil _ _) ?_
        refine aw_p 127 (
          .a 4 4 <|
          .p (does_c ((by have h := rproduct_ok (Sp.qn (Sp.sl n1 d1 n2 d2)) (Sp.qd (Sp.sl n1 d1 n2 d2)) (by have := Sp.qn_bd (Sp.sl n1 d1 n2 d2); omega) (by have := Sp.qn_bd (Sp.sl n1 d1 n2 d2); omega) (by have := Sp.qd_bd (Sp.sl n1 d1 n2 d2); omega) (by have := Sp.qd_bd (Sp.sl n1 d1 n2 d2); omega) n 1 (by omega) (by omega) (by decide) (by decide); rw [(Sp.rv_fit (q := (Sp.sl n1 d1 n2 d2)) (Sp.fit_sl (by omega) (by omega) (by omega))), (Sp.rv_int n (by omega))] at h; exact h))) <|
          .a 6 4 <| .nil _ _) ?_
        refine aw_p 255 (
          .a 2 5 <|
          .p (does_c ((by have h := ropp_ok (Sp.qn (Sp.sh n1 d1 n2 d2)) (Sp.qd (Sp.sh n1 d1 n2 d2)) (by have := Sp.qn_bd (Sp.sh n1 d1 n2 d2); omega) (by have := Sp.qn_bd (Sp.sh n1 d1 n2 d2); omega) (by have := Sp.qd_bd (Sp.sh n1 d1 n2 d2); omega) (by have := Sp.qd_bd (Sp.sh n1 d1 n2 d2); omega); rw [(Sp.rv_fit (q := (Sp.sh n1 d1 n2 d2)) (Sp.fit_sh (by omega) (by omega) (by omega)))] at h; exact h))) <|
          .a 2 5 <|
          .p (does_c ((by have h := rproduct_ok (Sp.qn (-(Sp.sh n1 d1 n2 d2))) (Sp.qd (-(Sp.sh n1 d1 n2 d2))) (by have := Sp.qn_bd (-(Sp.sh n1 d1 n2 d2)); omega) (by have := Sp.qn_bd (-(Sp.sh n1 d1 n2 d2)); omega) (by have := Sp.qd_bd (-(Sp.sh n1 d1 n2 d2)); omega) (by have := Sp.qd_bd (-(Sp.sh n1 d1 n2 d2)); omega) n 1 (by omega) (by omega) (by decide) (by decide); rw [(Sp.rv_fit (q := (-(Sp.sh n1 d1 n2 d2))) (Sp.fitq_neg (Sp.fit_sh (by omega) (by omega) (by omega)))), (Sp.rv_int n (by omega))] at h; exact h))) <|
          .a 6 5 <| .nil _ _) ?_
        refine aw_sq 510 511 ?_
        refine aw_p 1021 (
          .a 1 6 <| .p (does_b true (((Sp.qe_ne0 ((Sp.sl n1 d1 n2 d2) * ((n : Int) : Rat)))).trans (not_f h3))) <| .a 4 6 <| .nil _ _) ?_
        refine aw_tr 2042 ?_
        refine aw_p 4085 (
          .a 2 6 <| .p (does_e true ((show (((0 == 0) && ((0 == 0) && true)) && (((0 == 0) && ((0 == 0) && true)) && true)) = true from by decide))) <| .a 5 6 <| .nil _ _) ?_
        refine aw_rt ?_
        refine then_ret ?_
        exact en_ret [.bool true] (by kernel_rfl)


end Go.Proofs.Ythflpnpnlpaigaa.Am
