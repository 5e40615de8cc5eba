/-
  Spans: each.
-/
import Derived.Test.YtcokagabchjilaaGreatProg
import Derived.Test.YtcokagabchjilaaGreatAm16
import Derived.Test.YtcokagabchjilaaGreatSn1
namespace Go.Proofs.YtcokagabchjilaaGreat.Am
open Go Go.Proofs
set_option maxRecDepth 100000
set_option maxHeartbeats 4000000
set_option linter.unusedVariables false
set_option linter.unusedSimpArgs false

theorem eachM_ok (n1 d1 : Int) (zln1 : -9223372036854775808 ≤ n1) (zun1 : n1 ≤ 9223372036854775807) (zld1 : -9223372036854775808 ≤ d1) (zud1 : d1 ≤ 9223372036854775807) (n2 d2 : Int) (zln2 : -9223372036854775808 ≤ n2) (zun2 : n2 ≤ 9223372036854775807) (zld2 : -9223372036854775808 ≤ d2) (zud2 : d2 ≤ 9223372036854775807) (n3 d3 : Int) (zln3 : -9223372036854775808 ≤ n3) (zun3 : n3 ≤ 9223372036854775807) (zld3 : -9223372036854775808 ≤ d3) (zud3 : d3 ≤ 9223372036854775807) (n4 d4 : Int) (zln4 : -9223372036854775808 ≤ n4) (zun4 : n4 ≤ 9223372036854775807) (zld4 : -9223372036854775808 ≤ d4) (zud4 : d4 ≤ 9223372036854775807) :
    AC Tryz.prog 61 0 ([.agg #[.int .i64 n1, .int .i64 d1, .int .i64 n2, .int .i64 d2], .agg #[.int .i64 n3, .int .i64 d3, .int .i64 n4, .int .i64 d4], .func (.func 56) #[] #[]]) [] (.tuple #[.agg #[.int .i64 (Sp.m4n ((Sp.sl n1 d1 n2 d2) * (Sp.sl n3 d3 n4 d4)) ((Sp.sl n1 d1 n2 d2) * (Sp.sh n3 d3 n4 d4)) ((Sp.sh n1 d1 n2 d2) * (Sp.sl n3 d3 n4 d4)) ((Sp.sh n1 d1 n2 d2) * (Sp.sh n3 d3 n4 d4))), .int .i64 (Sp.m4d ((Sp.sl n1 d1 n2 d2) * (Sp.sl n3 d3 n4 d4)) ((Sp.sl n1 d1 n2 d2) * (Sp.sh n3 d3 n4 d4)) ((Sp.sh n1 d1 n2 d2) * (Sp.sl n3 d3 n4 d4)) ((Sp.sh n1 d1 n2 d2) * (Sp.sh n3 d3 n4 d4))), .int .i64 (Sp.x4n ((Sp.sl n1 d1 n2 d2) * (Sp.sl n3 d3 n4 d4)) ((Sp.sl n1 d1 n2 d2) * (Sp.sh n3 d3 n4 d4)) ((Sp.sh n1 d1 n2 d2) * (Sp.sl n3 d3 n4 d4)) ((Sp.sh n1 d1 n2 d2) * (Sp.sh n3 d3 n4 d4))), .int .i64 (Sp.x4d ((Sp.sl n1 d1 n2 d2) * (Sp.sl n3 d3 n4 d4)) ((Sp.sl n1 d1 n2 d2) * (Sp.sh n3 d3 n4 d4)) ((Sp.sh n1 d1 n2 d2) * (Sp.sl n3 d3 n4 d4)) ((Sp.sh n1 d1 n2 d2) * (Sp.sh n3 d3 n4 d4)))], .int .i64 (Sp.e4 ((Sp.sl n1 d1 n2 d2) * (Sp.sl n3 d3 n4 d4)) ((Sp.sl n1 d1 n2 d2) * (Sp.sh n3 d3 n4 d4)) ((Sp.sh n1 d1 n2 d2) * (Sp.sl n3 d3 n4 d4)) ((Sp.sh n1 d1 n2 d2) * (Sp.sh n3 d3 n4 d4)))]) [] := by
  refine ac_in Tryz.func61 (fun w0 W pin => ?_)
  refine aw_p 3 (
    .a 4 1 <| .nil _ _) ?_
  refine aw_d 7 (
    .a 1 4 <| .p (does_c (sfit_ok n1 d1 (by omega) (by omega) (by omega) (by omega) n2 d2 (by omega) (by omega) (by omega) (by omega))) <| .a 1 4 <| .p (does_c (sfit_ok n3 d3 (by omega) (by omega) (by omega) (by omega) n4 d4 (by omega) (by omega) (by omega) (by omega))) <| .a 2 4 <| .nil _ _) ?_
  refine aw_p 15 (
    .a 1 4 <| .nil _ _) ?_
  refine aw_p 31 (
    .a 1 4 <| .nil _ _) ?_
  refine aw_sq 62 63 ?_
  refine aw_p 125 (
    .a 7 4 <| .nil _ _) ?_
  refine aw_bl 0 251 ?_
  refine aw_lp 503 ?_
  refine al_round ?_
  refine aw_p 1007 (
    .a 1 5 <| .nil _ _) ?_
  refine aw_sq 2014 2015 ?_
  refine aw_tr 4028 ?_
  refine aw_sk ?_
  refine then_normal ?_
  refine aw_sq 4030 4031 ?_
  refine aw_bl 1 8061 ?_
  refine aw_p 16123 (
    .a 4 5 <| .nil _ _) ?_
  refine aw_p 32247 (
    .a 7 6 <| .nil _ _) ?_
  refine aw_bl 2 64495 ?_
  refine aw_lp 128991 ?_
  refine al_round ?_
  refine aw_p 257983 (
    .a 1 7 <| .nil _ _) ?_
  refine aw_sq 515966 515967 ?_
  refine aw_tr 1031932 ?_
  refine aw_sk ?_
  refine then_normal ?_
  refine aw_sq 1031934 1031935 ?_
  refine aw_bl 3 2063869 ?_
  refine aw_p 4127739 (
    .a 4 7 <| .nil _ _) ?_
  refine aw_p 8255479 (
    .a 3 8 <|
    .p (does_c ((by have h := fmul_ok (Sp.qn (Sp.sl n1 d1 n2 d2)) (Sp.qd (Sp.sl n1 d1 n2 d2)) (by have := Sp.qn_bd (Sp.sl n1 d1 n2 d2); omega) (by have := Sp.qn_bd (Sp.sl n1 d1 n2 d2); omega) (by have := Sp.qd_bd (Sp.sl n1 d1 n2 d2); omega) (by have := Sp.qd_bd (Sp.sl n1 d1 n2 d2); omega) (Sp.qn (Sp.sl n3 d3 n4 d4)) (Sp.qd (Sp.sl n3 d3 n4 d4)) (by have := Sp.qn_bd (Sp.sl n3 d3 n4 d4); omega) (by have := Sp.qn_bd (Sp.sl n3 d3 n4 d4); omega) (by have := Sp.qd_bd (Sp.sl n3 d3 n4 d4); omega) (by have := Sp.qd_bd (Sp.sl n3 d3 n4 d4); omega); rw [(Sp.rv_fit (q := (Sp.sl n1 d1 n2 d2)) (Sp.fit_sl (by omega) (by omega) (by omega))), (Sp.rv_fit (q := (Sp.sl n3 d3 n4 d4)) (Sp.fit_sl (by omega) (by omega) (by omega)))] at h; exact h))) <|
    .a 6 8 <| .nil _ _) ?_
  refine aw_p1 (
    .a 3 9 <| .p (does_ap 10) <| .a 3 11 <| .p (does_b (Sp.fitq ((Sp.sl n1 d1 n2 d2) * (Sp.sl n3 d3 n4 d4))) ((Sp.qe_eq0 ((Sp.sl n1 d1 n2 d2) * (Sp.sl n3 d3 n4 d4))))) <| .a 3 11 <| .nil _ _) ?_
  refine block_normal ?_
  refine then_normal ?_
  refine aw_p1 (
    .a 2 11 <| .nil _ _) ?_
  refine then_normal ?_
  refine al_round ?_
  refine aw_p 257983 (
    .a 1 11 <| .nil _ _) ?_
  refine aw_sq 515966 515967 ?_
  refine aw_tr 1031932 ?_
  refine aw_sk ?_
  refine then_normal ?_
  refine aw_sq 1031934 1031935 ?_
  refine aw_bl 3 2063869 ?_
  refine aw_p 4127739 (
    .a 4 11 <| .nil _ _) ?_
  refine aw_p 8255479 (
    .a 3 12 <|
    .p (does_c ((by have h := fmul_ok (Sp.qn (Sp.sl n1 d1 n2 d2)) (Sp.qd (Sp.sl n1 d1 n2 d2)) (by have := Sp.qn_bd (Sp.sl n1 d1 n2 d2); omega) (by have := Sp.qn_bd (Sp.sl n1 d1 n2 d2); omega) (by have := Sp.qd_bd (Sp.sl n1 d1 n2 d2); omega) (by have := Sp.qd_bd (Sp.sl n1 d1 n2 d2); omega) (Sp.qn (Sp.sh n3 d3 n4 d4)) (Sp.qd (Sp.sh n3 d3 n4 d4)) (by have := Sp.qn_bd (Sp.sh n3 d3 n4 d4); omega) (by have := Sp.qn_bd (Sp.sh n3 d3 n4 d4); omega) (by have := Sp.qd_bd (Sp.sh n3 d3 n4 d4); omega) (by have := Sp.qd_bd (Sp.sh n3 d3 n4 d4); omega); rw [(Sp.rv_fit (q := (Sp.sl n1 d1 n2 d2)) (Sp.fit_sl (by omega) (by omega) (by omega))), (Sp.rv_fit (q := (Sp.sh n3 d3 n4 d4)) (Sp.fit_sh (by omega) (by omega) (by omega)))] at h; exact h))) <|
    .a 6 12 <| .nil _ _) ?_
  rcases Bool.eq_false_or_eq_true (Sp.fitq ((Sp.sl n1 d1 n2 d2) * (Sp.sl n3 d3 n4 d4))) with h1 | h1
  · have h1p : (Sp.fitq ((Sp.sl n1 d1 n2 d2) * (Sp.sl n3 d3 n4 d4))) = true := by simpa using h1
    refine aw_p1 (
      .a 3 13 <| .p (does_ap 14) <| .p (does_b true (h1)) <| .a 2 15 <| .p (does_b (Sp.fitq ((Sp.sl n1 d1 n2 d2) * (Sp.sh n3 d3 n4 d4))) ((Sp.qe_eq0 ((Sp.sl n1 d1 n2 d2) * (Sp.sh n3 d3 n4 d4))))) <| .a 3 15 <| .nil _ _) ?_
    refine block_normal ?_
    refine then_normal ?_
    refine aw_p1 (
      .a 2 15 <| .nil _ _) ?_
    refine then_normal ?_
    refine al_round ?_
    refine aw_p 257983 (
      .a 1 15 <| .nil _ _) ?_
    refine aw_sq 515966 515967 ?_
    refine aw_fl 1031933 ?_
    refine aw_ex 2 ?_
    refine then_exit ?_
    refine then_exit ?_
    refine block_exit ?_
    refine block_normal ?_
    refine then_normal ?_
    refine aw_p1 (
      .a 2 15 <| .nil _ _) ?_
    refine then_normal ?_
    refine al_round ?_
    refine aw_p 1007 (
      .a 1 15 <| .nil _ _) ?_
    refine aw_sq 2014 2015 ?_
    refine aw_tr 4028 ?_
    refine aw_sk ?_
    refine then_normal ?_
    refine aw_sq 4030 4031 ?_
    refine aw_bl 1 8061 ?_
    refine aw_p 16123 (
      .a 4 15 <| .nil _ _) ?_
    refine aw_p 32247 (
      .a 7 16 <| .nil _ _) ?_
    refine aw_bl 2 64495 ?_
    refine aw_lp 128991 ?_
    refine al_round ?_
    refine aw_p 257983 (
      .a 1 17 <| .nil _ _) ?_
    refine aw_sq 515966 515967 ?_
    refine aw_tr 1031932 ?_
    refine aw_sk ?_
    refine then_normal ?_
    refine aw_sq 1031934 1031935 ?_
    refine aw_bl 3 2063869 ?_
    refine aw_p 4127739 (
      .a 4 17 <| .nil _ _) ?_
    refine aw_p 8255479 (
      .a 3 18 <|
      .p (does_c ((by have h := fmul_ok (Sp.qn (Sp.sh n1 d1 n2 d2)) (Sp.qd (Sp.sh n1 d1 n2 d2)) (by have := Sp.qn_bd (Sp.sh n1 d1 n2 d2); omega) (by have := Sp.qn_bd (Sp.sh n1 d1 n2 d2); omega) (by have := Sp.qd_bd (Sp.sh n1 d1 n2 d2); omega) (by have := Sp.qd_bd (Sp.sh n1 d1 n2 d2); omega) (Sp.qn (Sp.sl n3 d3 n4 d4)) (Sp.qd (Sp.sl n3 d3 n4 d4)) (by have := Sp.qn_bd (Sp.sl n3 d3 n4 d4); omega) (by have := Sp.qn_bd (Sp.sl n3 d3 n4 d4); omega) (by have := Sp.qd_bd (Sp.sl n3 d3 n4 d4); omega) (by have := Sp.qd_bd (Sp.sl n3 d3 n4 d4); omega); rw [(Sp.rv_fit (q := (Sp.sh n1 d1 n2 d2)) (Sp.fit_sh (by omega) (by omega) (by omega))), (Sp.rv_fit (q := (Sp.sl n3 d3 n4 d4)) (Sp.fit_sl (by omega) (by omega) (by omega)))] at h; exact h))) <|
      .a 6 18 <| .nil _ _) ?_
    rcases Bool.eq_false_or_eq_true (Sp.fitq ((Sp.sl n1 d1 n2 d2) * (Sp.sh n3 d3 n4 d4))) with h2 | h2
    · have h2p : (Sp.fitq ((Sp.sl n1 d1 n2 d2) * (Sp.sh n3 d3 n4 d4))) = true := by simpa using h2
      refine aw_p1 (
        .a 3 19 <| .p (does_ap 20) <| .p (does_b true (h2)) <| .a 2 21 <| .p (does_b (Sp.fitq ((Sp.sh n1 d1 n2 d2) * (Sp.sl n3 d3 n4 d4))) ((Sp.qe_eq0 ((Sp.sh n1 d1 n2 d2) * (Sp.sl n3 d3 n4 d4))))) <| .a 3 21 <| .nil _ _) ?_
      refine block_normal ?_
      refine then_normal ?_
      refine aw_p1 (
        .a 2 21 <| .nil _ _) ?_
      refine then_normal ?_
      refine al_round ?_
      refine aw_p 257983 (
        .a 1 21 <| .nil _ _) ?_
      refine aw_sq 515966 515967 ?_
      refine aw_tr 1031932 ?_
      refine aw_sk ?_
      refine then_normal ?_
      refine aw_sq 1031934 1031935 ?_
      refine aw_bl 3 2063869 ?_
      refine aw_p 4127739 (
        .a 4 21 <| .nil _ _) ?_
      refine aw_p 8255479 (
        .a 3 22 <|
        .p (does_c ((by have h := fmul_ok (Sp.qn (Sp.sh n1 d1 n2 d2)) (Sp.qd (Sp.sh n1 d1 n2 d2)) (by have := Sp.qn_bd (Sp.sh n1 d1 n2 d2); omega) (by have := Sp.qn_bd (Sp.sh n1 d1 n2 d2); omega) (by have := Sp.qd_bd (Sp.sh n1 d1 n2 d2); omega) (by have := Sp.qd_bd (Sp.sh n1 d1 n2 d2); omega) (Sp.qn (Sp.sh n3 d3 n4 d4)) (Sp.qd (Sp.sh n3 d3 n4 d4)) (by have := Sp.qn_bd (Sp.sh n3 d3 n4 d4); omega) (by have := Sp.qn_bd (Sp.sh n3 d3 n4 d4); omega) (by have := Sp.qd_bd (Sp.sh n3 d3 n4 d4); omega) (by have := Sp.qd_bd (Sp.sh n3 d3 n4 d4); omega); rw [(Sp.rv_fit (q := (Sp.sh n1 d1 n2 d2)) (Sp.fit_sh (by omega) (by omega) (by omega))), (Sp.rv_fit (q := (Sp.sh n3 d3 n4 d4)) (Sp.fit_sh (by omega) (by omega) (by omega)))] at h; exact h))) <|
        .a 6 22 <| .nil _ _) ?_
      rcases Bool.eq_false_or_eq_true (Sp.fitq ((Sp.sh n1 d1 n2 d2) * (Sp.sl n3 d3 n4 d4))) with h3 | h3
      · have h3p : (Sp.fitq ((Sp.sh n1 d1 n2 d2) * (Sp.sl n3 d3 n4 d4))) = true := by simpa using h3
        refine aw_p1 (
          .a 3 23 <| .p (does_ap 24) <| .p (does_b true (h3)) <| .a 2 25 <| .p (does_b (Sp.fitq ((Sp.sh n1 d1 n2 d2) * (Sp.sh n3 d3 n4 d4))) ((Sp.qe_eq0 ((Sp.sh n1 d1 n2 d2) * (Sp.sh n3 d3 n4 d4))))) <| .a 3 25 <| .nil _ _) ?_
        refine block_normal ?_
        refine then_normal ?_
        refine aw_p1 (
          .a 2 25 <| .nil _ _) ?_
        refine then_normal ?_
        refine al_round ?_
        refine aw_p 257983 (
          .a 1 25 <| .nil _ _) ?_
        refine aw_sq 515966 515967 ?_
        refine aw_fl 1031933 ?_
        refine aw_ex 2 ?_
        refine then_exit ?_
        refine then_exit ?_
        refine block_exit ?_
        refine block_normal ?_
        refine then_normal ?_
        refine aw_p1 (
          .a 2 25 <| .nil _ _) ?_
        refine then_normal ?_
        refine al_round ?_
        refine aw_p 1007 (
          .a 1 25 <| .nil _ _) ?_
        refine aw_sq 2014 2015 ?_
        refine aw_fl 4029 ?_
        refine aw_ex 0 ?_
        refine then_exit ?_
        refine then_exit ?_
        refine block_exit ?_
        refine then_normal ?_
        rcases Bool.eq_false_or_eq_true (Sp.fitq ((Sp.sh n1 d1 n2 d2) * (Sp.sh n3 d3 n4 d4))) with h4 | h4
        · have h4p : (Sp.fitq ((Sp.sh n1 d1 n2 d2) * (Sp.sh n3 d3 n4 d4))) = true := by simpa using h4
          refine aw_p 127 (
            .a 1 25 <| .p (does_b true (h4)) <|
            .p (does_k [24] (around4T_ok ((Sp.sl n1 d1 n2 d2) * (Sp.sl n3 d3 n4 d4)) ((Sp.sl n1 d1 n2 d2) * (Sp.sh n3 d3 n4 d4)) ((Sp.sh n1 d1 n2 d2) * (Sp.sl n3 d3 n4 d4)) ((Sp.sh n1 d1 n2 d2) * (Sp.sh n3 d3 n4 d4)) (by assumption) (by assumption) (by assumption) (by assumption))) <| .a 4 25 <| .nil _ _) ?_
          refine aw_rt ?_
          exact en_ret [.agg #[.int .i64 (Sp.qn (Sp.rmin (Sp.rmin (Sp.rmin ((Sp.sl n1 d1 n2 d2) * (Sp.sl n3 d3 n4 d4)) ((Sp.sl n1 d1 n2 d2) * (Sp.sh n3 d3 n4 d4))) ((Sp.sh n1 d1 n2 d2) * (Sp.sl n3 d3 n4 d4))) ((Sp.sh n1 d1 n2 d2) * (Sp.sh n3 d3 n4 d4)))), .int .i64 (Sp.qd (Sp.rmin (Sp.rmin (Sp.rmin ((Sp.sl n1 d1 n2 d2) * (Sp.sl n3 d3 n4 d4)) ((Sp.sl n1 d1 n2 d2) * (Sp.sh n3 d3 n4 d4))) ((Sp.sh n1 d1 n2 d2) * (Sp.sl n3 d3 n4 d4))) ((Sp.sh n1 d1 n2 d2) * (Sp.sh n3 d3 n4 d4)))), .int .i64 (Sp.qn (Sp.rmax (Sp.rmax (Sp.rmax ((Sp.sl n1 d1 n2 d2) * (Sp.sl n3 d3 n4 d4)) ((Sp.sl n1 d1 n2 d2) * (Sp.sh n3 d3 n4 d4))) ((Sp.sh n1 d1 n2 d2) * (Sp.sl n3 d3 n4 d4))) ((Sp.sh n1 d1 n2 d2) * (Sp.sh n3 d3 n4 d4)))), .int .i64 (Sp.qd (Sp.rmax (Sp.rmax (Sp.rmax ((Sp.sl n1 d1 n2 d2) * (Sp.sl n3 d3 n4 d4)) ((Sp.sl n1 d1 n2 d2) * (Sp.sh n3 d3 n4 d4))) ((Sp.sh n1 d1 n2 d2) * (Sp.sl n3 d3 n4 d4))) ((Sp.sh n1 d1 n2 d2) * (Sp.sh n3 d3 n4 d4))))], .int .i64 0] (show (.tuple #[.agg #[.int .i64 (Sp.qn (Sp.rmin (Sp.rmin (Sp.rmin ((Sp.sl n1 d1 n2 d2) * (Sp.sl n3 d3 n4 d4)) ((Sp.sl n1 d1 n2 d2) * (Sp.sh n3 d3 n4 d4))) ((Sp.sh n1 d1 n2 d2) * (Sp.sl n3 d3 n4 d4))) ((Sp.sh n1 d1 n2 d2) * (Sp.sh n3 d3 n4 d4)))), .int .i64 (Sp.qd (Sp.rmin (Sp.rmin (Sp.rmin ((Sp.sl n1 d1 n2 d2) * (Sp.sl n3 d3 n4 d4)) ((Sp.sl n1 d1 n2 d2) * (Sp.sh n3 d3 n4 d4))) ((Sp.sh n1 d1 n2 d2) * (Sp.sl n3 d3 n4 d4))) ((Sp.sh n1 d1 n2 d2) * (Sp.sh n3 d3 n4 d4)))), .int .i64 (Sp.qn (Sp.rmax (Sp.rmax (Sp.rmax ((Sp.sl n1 d1 n2 d2) * (Sp.sl n3 d3 n4 d4)) ((Sp.sl n1 d1 n2 d2) * (Sp.sh n3 d3 n4 d4))) ((Sp.sh n1 d1 n2 d2) * (Sp.sl n3 d3 n4 d4))) ((Sp.sh n1 d1 n2 d2) * (Sp.sh n3 d3 n4 d4)))), .int .i64 (Sp.qd (Sp.rmax (Sp.rmax (Sp.rmax ((Sp.sl n1 d1 n2 d2) * (Sp.sl n3 d3 n4 d4)) ((Sp.sl n1 d1 n2 d2) * (Sp.sh n3 d3 n4 d4))) ((Sp.sh n1 d1 n2 d2) * (Sp.sl n3 d3 n4 d4))) ((Sp.sh n1 d1 n2 d2) * (Sp.sh n3 d3 n4 d4))))], .int .i64 0] : Value) = (.tuple #[.agg #[.int .i64 (Sp.m4n ((Sp.sl n1 d1 n2 d2) * (Sp.sl n3 d3 n4 d4)) ((Sp.sl n1 d1 n2 d2) * (Sp.sh n3 d3 n4 d4)) ((Sp.sh n1 d1 n2 d2) * (Sp.sl n3 d3 n4 d4)) ((Sp.sh n1 d1 n2 d2) * (Sp.sh n3 d3 n4 d4))), .int .i64 (Sp.m4d ((Sp.sl n1 d1 n2 d2) * (Sp.sl n3 d3 n4 d4)) ((Sp.sl n1 d1 n2 d2) * (Sp.sh n3 d3 n4 d4)) ((Sp.sh n1 d1 n2 d2) * (Sp.sl n3 d3 n4 d4)) ((Sp.sh n1 d1 n2 d2) * (Sp.sh n3 d3 n4 d4))), .int .i64 (Sp.x4n ((Sp.sl n1 d1 n2 d2) * (Sp.sl n3 d3 n4 d4)) ((Sp.sl n1 d1 n2 d2) * (Sp.sh n3 d3 n4 d4)) ((Sp.sh n1 d1 n2 d2) * (Sp.sl n3 d3 n4 d4)) ((Sp.sh n1 d1 n2 d2) * (Sp.sh n3 d3 n4 d4))), .int .i64 (Sp.x4d ((Sp.sl n1 d1 n2 d2) * (Sp.sl n3 d3 n4 d4)) ((Sp.sl n1 d1 n2 d2) * (Sp.sh n3 d3 n4 d4)) ((Sp.sh n1 d1 n2 d2) * (Sp.sl n3 d3 n4 d4)) ((Sp.sh n1 d1 n2 d2) * (Sp.sh n3 d3 n4 d4)))], .int .i64 (Sp.e4 ((Sp.sl n1 d1 n2 d2) * (Sp.sl n3 d3 n4 d4)) ((Sp.sl n1 d1 n2 d2) * (Sp.sh n3 d3 n4 d4)) ((Sp.sh n1 d1 n2 d2) * (Sp.sl n3 d3 n4 d4)) ((Sp.sh n1 d1 n2 d2) * (Sp.sh n3 d3 n4 d4)))]) from (congrArg (fun z : List Value => Value.tuple z.toArray) (lcons (congrArg (fun z : List Value => Value.agg z.toArray) (lcons (congrArg (Value.int .i64) (show (Sp.qn (Sp.rmin (Sp.rmin (Sp.rmin ((Sp.sl n1 d1 n2 d2) * (Sp.sl n3 d3 n4 d4)) ((Sp.sl n1 d1 n2 d2) * (Sp.sh n3 d3 n4 d4))) ((Sp.sh n1 d1 n2 d2) * (Sp.sl n3 d3 n4 d4))) ((Sp.sh n1 d1 n2 d2) * (Sp.sh n3 d3 n4 d4)))) = (Sp.m4n ((Sp.sl n1 d1 n2 d2) * (Sp.sl n3 d3 n4 d4)) ((Sp.sl n1 d1 n2 d2) * (Sp.sh n3 d3 n4 d4)) ((Sp.sh n1 d1 n2 d2) * (Sp.sl n3 d3 n4 d4)) ((Sp.sh n1 d1 n2 d2) * (Sp.sh n3 d3 n4 d4))) from by exact (Sp.s4_yes (p := ((Sp.sl n1 d1 n2 d2) * (Sp.sl n3 d3 n4 d4))) (q := ((Sp.sl n1 d1 n2 d2) * (Sp.sh n3 d3 n4 d4))) (r := ((Sp.sh n1 d1 n2 d2) * (Sp.sl n3 d3 n4 d4))) (s := ((Sp.sh n1 d1 n2 d2) * (Sp.sh n3 d3 n4 d4))) (Sp.al4_yes (by assumption) (by assumption) (by assumption) (by assumption))).1)) (lcons (congrArg (Value.int .i64) (show (Sp.qd (Sp.rmin (Sp.rmin (Sp.rmin ((Sp.sl n1 d1 n2 d2) * (Sp.sl n3 d3 n4 d4)) ((Sp.sl n1 d1 n2 d2) * (Sp.sh n3 d3 n4 d4))) ((Sp.sh n1 d1 n2 d2) * (Sp.sl n3 d3 n4 d4))) ((Sp.sh n1 d1 n2 d2) * (Sp.sh n3 d3 n4 d4)))) = (Sp.m4d ((Sp.sl n1 d1 n2 d2) * (Sp.sl n3 d3 n4 d4)) ((Sp.sl n1 d1 n2 d2) * (Sp.sh n3 d3 n4 d4)) ((Sp.sh n1 d1 n2 d2) * (Sp.sl n3 d3 n4 d4)) ((Sp.sh n1 d1 n2 d2) * (Sp.sh n3 d3 n4 d4))) from by exact (Sp.s4_yes (p := ((Sp.sl n1 d1 n2 d2) * (Sp.sl n3 d3 n4 d4))) (q := ((Sp.sl n1 d1 n2 d2) * (Sp.sh n3 d3 n4 d4))) (r := ((Sp.sh n1 d1 n2 d2) * (Sp.sl n3 d3 n4 d4))) (s := ((Sp.sh n1 d1 n2 d2) * (Sp.sh n3 d3 n4 d4))) (Sp.al4_yes (by assumption) (by assumption) (by assumption) (by assumption))).2.1)) (lcons (congrArg (Value.int .i64) (show (Sp.qn (Sp.rmax (Sp.rmax (Sp.rmax ((Sp.sl n1 d1 n2 d2) * (Sp.sl n3 d3 n4 d4)) ((Sp.sl n1 d1 n2 d2) * (Sp.sh n3 d3 n4 d4))) ((Sp.sh n1 d1 n2 d2) * (Sp.sl n3 d3 n4 d4))) ((Sp.sh n1 d1 n2 d2) * (Sp.sh n3 d3 n4 d4)))) = (Sp.x4n ((Sp.sl n1 d1 n2 d2) * (Sp.sl n3 d3 n4 d4)) ((Sp.sl n1 d1 n2 d2) * (Sp.sh n3 d3 n4 d4)) ((Sp.sh n1 d1 n2 d2) * (Sp.sl n3 d3 n4 d4)) ((Sp.sh n1 d1 n2 d2) * (Sp.sh n3 d3 n4 d4))) from by exact (Sp.s4_yes (p := ((Sp.sl n1 d1 n2 d2) * (Sp.sl n3 d3 n4 d4))) (q := ((Sp.sl n1 d1 n2 d2) * (Sp.sh n3 d3 n4 d4))) (r := ((Sp.sh n1 d1 n2 d2) * (Sp.sl n3 d3 n4 d4))) (s := ((Sp.sh n1 d1 n2 d2) * (Sp.sh n3 d3 n4 d4))) (Sp.al4_yes (by assumption) (by assumption) (by assumption) (by assumption))).2.2.1)) (lcons (congrArg (Value.int .i64) (show (Sp.qd (Sp.rmax (Sp.rmax (Sp.rmax ((Sp.sl n1 d1 n2 d2) * (Sp.sl n3 d3 n4 d4)) ((Sp.sl n1 d1 n2 d2) * (Sp.sh n3 d3 n4 d4))) ((Sp.sh n1 d1 n2 d2) * (Sp.sl n3 d3 n4 d4))) ((Sp.sh n1 d1 n2 d2) * (Sp.sh n3 d3 n4 d4)))) = (Sp.x4d ((Sp.sl n1 d1 n2 d2) * (Sp.sl n3 d3 n4 d4)) ((Sp.sl n1 d1 n2 d2) * (Sp.sh n3 d3 n4 d4)) ((Sp.sh n1 d1 n2 d2) * (Sp.sl n3 d3 n4 d4)) ((Sp.sh n1 d1 n2 d2) * (Sp.sh n3 d3 n4 d4))) from by exact (Sp.s4_yes (p := ((Sp.sl n1 d1 n2 d2) * (Sp.sl n3 d3 n4 d4))) (q := ((Sp.sl n1 d1 n2 d2) * (Sp.sh n3 d3 n4 d4))) (r := ((Sp.sh n1 d1 n2 d2) * (Sp.sl n3 d3 n4 d4))) (s := ((Sp.sh n1 d1 n2 d2) * (Sp.sh n3 d3 n4 d4))) (Sp.al4_yes (by assumption) (by assumption) (by assumption) (by assumption))).2.2.2.1)) rfl))))) (lcons (congrArg (Value.int .i64) (show 0 = (Sp.e4 ((Sp.sl n1 d1 n2 d2) * (Sp.sl n3 d3 n4 d4)) ((Sp.sl n1 d1 n2 d2) * (Sp.sh n3 d3 n4 d4)) ((Sp.sh n1 d1 n2 d2) * (Sp.sl n3 d3 n4 d4)) ((Sp.sh n1 d1 n2 d2) * (Sp.sh n3 d3 n4 d4))) from by exact (Sp.s4_yes (p := ((Sp.sl n1 d1 n2 d2) * (Sp.sl n3 d3 n4 d4))) (q := ((Sp.sl n1 d1 n2 d2) * (Sp.sh n3 d3 n4 d4))) (r := ((Sp.sh n1 d1 n2 d2) * (Sp.sl n3 d3 n4 d4))) (s := ((Sp.sh n1 d1 n2 d2) * (Sp.sh n3 d3 n4 d4))) (Sp.al4_yes (by assumption) (by assumption) (by assumption) (by assumption))).2.2.2.2)) rfl))))
        · have h4p : ¬ (Sp.fitq ((Sp.sh n1 d1 n2 d2) * (Sp.sh n3 d3 n4 d4))) = true := by simpa using h4
          refine aw_p 127 (
            .a 1 25 <| .p (does_b false (h4)) <| .p (does_k [24] (around4F_ok ((Sp.sl n1 d1 n2 d2) * (Sp.sl n3 d3 n4 d4)) ((Sp.sl n1 d1 n2 d2) * (Sp.sh n3 d3 n4 d4)) ((Sp.sh n1 d1 n2 d2) * (Sp.sl n3 d3 n4 d4)) ((Sp.sh n1 d1 n2 d2) * (Sp.sh n3 d3 n4 d4)))) <| .a 4 25 <| .nil _ _) ?_
          refine aw_rt ?_
          exact en_ret [.agg #[.int .i64 0, .int .i64 0, .int .i64 0, .int .i64 0], .int .i64 2] (show (.tuple #[.agg #[.int .i64 0, .int .i64 0, .int .i64 0, .int .i64 0], .int .i64 2] : Value) = (.tuple #[.agg #[.int .i64 (Sp.m4n ((Sp.sl n1 d1 n2 d2) * (Sp.sl n3 d3 n4 d4)) ((Sp.sl n1 d1 n2 d2) * (Sp.sh n3 d3 n4 d4)) ((Sp.sh n1 d1 n2 d2) * (Sp.sl n3 d3 n4 d4)) ((Sp.sh n1 d1 n2 d2) * (Sp.sh n3 d3 n4 d4))), .int .i64 (Sp.m4d ((Sp.sl n1 d1 n2 d2) * (Sp.sl n3 d3 n4 d4)) ((Sp.sl n1 d1 n2 d2) * (Sp.sh n3 d3 n4 d4)) ((Sp.sh n1 d1 n2 d2) * (Sp.sl n3 d3 n4 d4)) ((Sp.sh n1 d1 n2 d2) * (Sp.sh n3 d3 n4 d4))), .int .i64 (Sp.x4n ((Sp.sl n1 d1 n2 d2) * (Sp.sl n3 d3 n4 d4)) ((Sp.sl n1 d1 n2 d2) * (Sp.sh n3 d3 n4 d4)) ((Sp.sh n1 d1 n2 d2) * (Sp.sl n3 d3 n4 d4)) ((Sp.sh n1 d1 n2 d2) * (Sp.sh n3 d3 n4 d4))), .int .i64 (Sp.x4d ((Sp.sl n1 d1 n2 d2) * (Sp.sl n3 d3 n4 d4)) ((Sp.sl n1 d1 n2 d2) * (Sp.sh n3 d3 n4 d4)) ((Sp.sh n1 d1 n2 d2) * (Sp.sl n3 d3 n4 d4)) ((Sp.sh n1 d1 n2 d2) * (Sp.sh n3 d3 n4 d4)))], .int .i64 (Sp.e4 ((Sp.sl n1 d1 n2 d2) * (Sp.sl n3 d3 n4 d4)) ((Sp.sl n1 d1 n2 d2) * (Sp.sh n3 d3 n4 d4)) ((Sp.sh n1 d1 n2 d2) * (Sp.sl n3 d3 n4 d4)) ((Sp.sh n1 d1 n2 d2) * (Sp.sh n3 d3 n4 d4)))]) from (congrArg (fun z : List Value => Value.tuple z.toArray) (lcons (congrArg (fun z : List Value => Value.agg z.toArray) (lcons (congrArg (Value.int .i64) (show 0 = (Sp.m4n ((Sp.sl n1 d1 n2 d2) * (Sp.sl n3 d3 n4 d4)) ((Sp.sl n1 d1 n2 d2) * (Sp.sh n3 d3 n4 d4)) ((Sp.sh n1 d1 n2 d2) * (Sp.sl n3 d3 n4 d4)) ((Sp.sh n1 d1 n2 d2) * (Sp.sh n3 d3 n4 d4))) from by (exact (Sp.s4_no (p := ((Sp.sl n1 d1 n2 d2) * (Sp.sl n3 d3 n4 d4))) (q := ((Sp.sl n1 d1 n2 d2) * (Sp.sh n3 d3 n4 d4))) (r := ((Sp.sh n1 d1 n2 d2) * (Sp.sl n3 d3 n4 d4))) (s := ((Sp.sh n1 d1 n2 d2) * (Sp.sh n3 d3 n4 d4))) (by simp [*])).1))) (lcons (congrArg (Value.int .i64) (show 0 = (Sp.m4d ((Sp.sl n1 d1 n2 d2) * (Sp.sl n3 d3 n4 d4)) ((Sp.sl n1 d1 n2 d2) * (Sp.sh n3 d3 n4 d4)) ((Sp.sh n1 d1 n2 d2) * (Sp.sl n3 d3 n4 d4)) ((Sp.sh n1 d1 n2 d2) * (Sp.sh n3 d3 n4 d4))) from by (exact (Sp.s4_no (p := ((Sp.sl n1 d1 n2 d2) * (Sp.sl n3 d3 n4 d4))) (q := ((Sp.sl n1 d1 n2 d2) * (Sp.sh n3 d3 n4 d4))) (r := ((Sp.sh n1 d1 n2 d2) * (Sp.sl n3 d3 n4 d4))) (s := ((Sp.sh n1 d1 n2 d2) * (Sp.sh n3 d3 n4 d4))) (by simp [*])).2.1))) (lcons (congrArg (Value.int .i64) (show 0 = (Sp.x4n ((Sp.sl n1 d1 n2 d2) * (Sp.sl n3 d3 n4 d4)) ((Sp.sl n1 d1 n2 d2) * (Sp.sh n3 d3 n4 d4)) ((Sp.sh n1 d1 n2 d2) * (Sp.sl n3 d3 n4 d4)) ((Sp.sh n1 d1 n2 d2) * (Sp.sh n3 d3 n4 d4))) from by (exact (Sp.s4_no (p := ((Sp.sl n1 d1 n2 d2) * (Sp.sl n3 d3 n4 d4))) (q := ((Sp.sl n1 d1 n2 d2) * (Sp.sh n3 d3 n4 d4))) (r := ((Sp.sh n1 d1 n2 d2) * (Sp.sl n3 d3 n4 d4))) (s := ((Sp.sh n1 d1 n2 d2) * (Sp.sh n3 d3 n4 d4))) (by simp [*])).2.2.1))) (lcons (congrArg (Value.int .i64) (show 0 = (Sp.x4d ((Sp.sl n1 d1 n2 d2) * (Sp.sl n3 d3 n4 d4)) ((Sp.sl n1 d1 n2 d2) * (Sp.sh n3 d3 n4 d4)) ((Sp.sh n1 d1 n2 d2) * (Sp.sl n3 d3 n4 d4)) ((Sp.sh n1 d1 n2 d2) * (Sp.sh n3 d3 n4 d4))) from by (exact (Sp.s4_no (p := ((Sp.sl n1 d1 n2 d2) * (Sp.sl n3 d3 n4 d4))) (q := ((Sp.sl n1 d1 n2 d2) * (Sp.sh n3 d3 n4 d4))) (r := ((Sp.sh n1 d1 n2 d2) * (Sp.sl n3 d3 n4 d4))) (s := ((Sp.sh n1 d1 n2 d2) * (Sp.sh n3 d3 n4 d4))) (by simp [*])).2.2.2.1))) rfl))))) (lcons (congrArg (Value.int .i64) (show 2 = (Sp.e4 ((Sp.sl n1 d1 n2 d2) * (Sp.sl n3 d3 n4 d4)) ((Sp.sl n1 d1 n2 d2) * (Sp.sh n3 d3 n4 d4)) ((Sp.sh n1 d1 n2 d2) * (Sp.sl n3 d3 n4 d4)) ((Sp.sh n1 d1 n2 d2) * (Sp.sh n3 d3 n4 d4))) from by (exact (Sp.s4_no (p := ((Sp.sl n1 d1 n2 d2) * (Sp.sl n3 d3 n4 d4))) (q := ((Sp.sl n1 d1 n2 d2) * (Sp.sh n3 d3 n4 d4))) (r := ((Sp.sh n1 d1 n2 d2) * (Sp.sl n3 d3 n4 d4))) (s := ((Sp.sh n1 d1 n2 d2) * (Sp.sh n3 d3 n4 d4))) (by simp [*])).2.2.2.2))) rfl))))
      · have h3p : ¬ (Sp.fitq ((Sp.sh n1 d1 n2 d2) * (Sp.sl n3 d3 n4 d4))) = true := by simpa using h3
        refine aw_p1 (
          .a 3 23 <| .p (does_ap 24) <| .p (does_b false (h3)) <| .a 6 25 <| .nil _ _) ?_
        refine block_normal ?_
        refine then_normal ?_
        refine aw_p1 (
          .a 2 25 <| .nil _ _) ?_
        refine then_normal ?_
        refine al_round ?_
        refine aw_p 257983 (
          .a 1 25 <| .nil _ _) ?_
        refine aw_sq 515966 515967 ?_
        refine aw_fl 1031933 ?_
        refine aw_ex 2 ?_
        refine then_exit ?_
        refine then_exit ?_
        refine block_exit ?_
        refine block_normal ?_
        refine then_normal ?_
        refine aw_p1 (
          .a 2 25 <| .nil _ _) ?_
        refine then_normal ?_
        refine al_round ?_
        refine aw_p 1007 (
          .a 1 25 <| .nil _ _) ?_
        refine aw_sq 2014 2015 ?_
        refine aw_fl 4029 ?_
        refine aw_ex 0 ?_
        refine then_exit ?_
        refine then_exit ?_
        refine block_exit ?_
        refine then_normal ?_
        refine aw_p 127 (
          .a 2 25 <| .p (does_k [24] (around4F_ok ((Sp.sl n1 d1 n2 d2) * (Sp.sl n3 d3 n4 d4)) ((Sp.sl n1 d1 n2 d2) * (Sp.sh n3 d3 n4 d4)) ((Sp.sh n1 d1 n2 d2) * (Sp.sl n3 d3 n4 d4)) ((Sp.sh n1 d1 n2 d2) * (Sp.sh n3 d3 n4 d4)))) <| .a 4 25 <| .nil _ _) ?_
        refine aw_rt ?_
        exact en_ret [.agg #[.int .i64 0, .int .i64 0, .int .i64 0, .int .i64 0], .int .i64 2] (show (.tuple #[.agg #[.int .i64 0, .int .i64 0, .int .i64 0, .int .i64 0], .int .i64 2] : Value) = (.tuple #[.agg #[.int .i64 (Sp.m4n ((Sp.sl n1 d1 n2 d2) * (Sp.sl n3 d3 n4 d4)) ((Sp.sl n1 d1 n2 d2) * (Sp.sh n3 d3 n4 d4)) ((Sp.sh n1 d1 n2 d2) * (Sp.sl n3 d3 n4 d4)) ((Sp.sh n1 d1 n2 d2) * (Sp.sh n3 d3 n4 d4))), .int .i64 (Sp.m4d ((Sp.sl n1 d1 n2 d2) * (Sp.sl n3 d3 n4 d4)) ((Sp.sl n1 d1 n2 d2) * (Sp.sh n3 d3 n4 d4)) ((Sp.sh n1 d1 n2 d2) * (Sp.sl n3 d3 n4 d4)) ((Sp.sh n1 d1 n2 d2) * (Sp.sh n3 d3 n4 d4))), .int .i64 (Sp.x4n ((Sp.sl n1 d1 n2 d2) * (Sp.sl n3 d3 n4 d4)) ((Sp.sl n1 d1 n2 d2) * (Sp.sh n3 d3 n4 d4)) ((Sp.sh n1 d1 n2 d2) * (Sp.sl n3 d3 n4 d4)) ((Sp.sh n1 d1 n2 d2) * (Sp.sh n3 d3 n4 d4))), .int .i64 (Sp.x4d ((Sp.sl n1 d1 n2 d2) * (Sp.sl n3 d3 n4 d4)) ((Sp.sl n1 d1 n2 d2) * (Sp.sh n3 d3 n4 d4)) ((Sp.sh n1 d1 n2 d2) * (Sp.sl n3 d3 n4 d4)) ((Sp.sh n1 d1 n2 d2) * (Sp.sh n3 d3 n4 d4)))], .int .i64 (Sp.e4 ((Sp.sl n1 d1 n2 d2) * (Sp.sl n3 d3 n4 d4)) ((Sp.sl n1 d1 n2 d2) * (Sp.sh n3 d3 n4 d4)) ((Sp.sh n1 d1 n2 d2) * (Sp.sl n3 d3 n4 d4)) ((Sp.sh n1 d1 n2 d2) * (Sp.sh n3 d3 n4 d4)))]) from (congrArg (fun z : List Value => Value.tuple z.toArray) (lcons (congrArg (fun z : List Value => Value.agg z.toArray) (lcons (congrArg (Value.int .i64) (show 0 = (Sp.m4n ((Sp.sl n1 d1 n2 d2) * (Sp.sl n3 d3 n4 d4)) ((Sp.sl n1 d1 n2 d2) * (Sp.sh n3 d3 n4 d4)) ((Sp.sh n1 d1 n2 d2) * (Sp.sl n3 d3 n4 d4)) ((Sp.sh n1 d1 n2 d2) * (Sp.sh n3 d3 n4 d4))) from by (exact (Sp.s4_no (p := ((Sp.sl n1 d1 n2 d2) * (Sp.sl n3 d3 n4 d4))) (q := ((Sp.sl n1 d1 n2 d2) * (Sp.sh n3 d3 n4 d4))) (r := ((Sp.sh n1 d1 n2 d2) * (Sp.sl n3 d3 n4 d4))) (s := ((Sp.sh n1 d1 n2 d2) * (Sp.sh n3 d3 n4 d4))) (by simp [*])).1))) (lcons (congrArg (Value.int .i64) (show 0 = (Sp.m4d ((Sp.sl n1 d1 n2 d2) * (Sp.sl n3 d3 n4 d4)) ((Sp.sl n1 d1 n2 d2) * (Sp.sh n3 d3 n4 d4)) ((Sp.sh n1 d1 n2 d2) * (Sp.sl n3 d3 n4 d4)) ((Sp.sh n1 d1 n2 d2) * (Sp.sh n3 d3 n4 d4))) from by (exact (Sp.s4_no (p := ((Sp.sl n1 d1 n2 d2) * (Sp.sl n3 d3 n4 d4))) (q := ((Sp.sl n1 d1 n2 d2) * (Sp.sh n3 d3 n4 d4))) (r := ((Sp.sh n1 d1 n2 d2) * (Sp.sl n3 d3 n4 d4))) (s := ((Sp.sh n1 d1 n2 d2) * (Sp.sh n3 d3 n4 d4))) (by simp [*])).2.1))) (lcons (congrArg (Value.int .i64) (show 0 = (Sp.x4n ((Sp.sl n1 d1 n2 d2) * (Sp.sl n3 d3 n4 d4)) ((Sp.sl n1 d1 n2 d2) * (Sp.sh n3 d3 n4 d4)) ((Sp.sh n1 d1 n2 d2) * (Sp.sl n3 d3 n4 d4)) ((Sp.sh n1 d1 n2 d2) * (Sp.sh n3 d3 n4 d4))) from by (exact (Sp.s4_no (p := ((Sp.sl n1 d1 n2 d2) * (Sp.sl n3 d3 n4 d4))) (q := ((Sp.sl n1 d1 n2 d2) * (Sp.sh n3 d3 n4 d4))) (r := ((Sp.sh n1 d1 n2 d2) * (Sp.sl n3 d3 n4 d4))) (s := ((Sp.sh n1 d1 n2 d2) * (Sp.sh n3 d3 n4 d4))) (by simp [*])).2.2.1))) (lcons (congrArg (Value.int .i64) (show 0 = (Sp.x4d ((Sp.sl n1 d1 n2 d2) * (Sp.sl n3 d3 n4 d4)) ((Sp.sl n1 d1 n2 d2) * (Sp.sh n3 d3 n4 d4)) ((Sp.sh n1 d1 n2 d2) * (Sp.sl n3 d3 n4 d4)) ((Sp.sh n1 d1 n2 d2) * (Sp.sh n3 d3 n4 d4))) from by (exact (Sp.s4_no (p := ((Sp.sl n1 d1 n2 d2) * (Sp.sl n3 d3 n4 d4))) (q := ((Sp.sl n1 d1 n2 d2) * (Sp.sh n3 d3 n4 d4))) (r := ((Sp.sh n1 d1 n2 d2) * (Sp.sl n3 d3 n4 d4))) (s := ((Sp.sh n1 d1 n2 d2) * (Sp.sh n3 d3 n4 d4))) (by simp [*])).2.2.2.1))) rfl))))) (lcons (congrArg (Value.int .i64) (show 2 = (Sp.e4 ((Sp.sl n1 d1 n2 d2) * (Sp.sl n3 d3 n4 d4)) ((Sp.sl n1 d1 n2 d2) * (Sp.sh n3 d3 n4 d4)) ((Sp.sh n1 d1 n2 d2) * (Sp.sl n3 d3 n4 d4)) ((Sp.sh n1 d1 n2 d2) * (Sp.sh n3 d3 n4 d4))) from by (exact (Sp.s4_no (p := ((Sp.sl n1 d1 n2 d2) * (Sp.sl n3 d3 n4 d4))) (q := ((Sp.sl n1 d1 n2 d2) * (Sp.sh n3 d3 n4 d4))) (r := ((Sp.sh n1 d1 n2 d2) * (Sp.sl n3 d3 n4 d4))) (s := ((Sp.sh n1 d1 n2 d2) * (Sp.sh n3 d3 n4 d4))) (by simp [*])).2.2.2.2))) rfl))))
    · have h2p : ¬ (Sp.fitq ((Sp.sl n1 d1 n2 d2) * (Sp.sh n3 d3 n4 d4))) = true := by simpa using h2
      refine aw_p1 (
        .a 3 19 <| .p (does_ap 20) <| .p (does_b false (h2)) <| .a 6 21 <| .nil _ _) ?_
      refine block_normal ?_
      refine then_normal ?_
      refine aw_p1 (
        .a 2 21 <| .nil _ _) ?_
      refine then_normal ?_
      refine al_round ?_
      refine aw_p 257983 (
        .a 1 21 <| .nil _ _) ?_
      refine aw_sq 515966 515967 ?_
      refine aw_tr 1031932 ?_
      refine aw_sk ?_
      refine then_normal ?_
      refine aw_sq 1031934 1031935 ?_
      refine aw_bl 3 2063869 ?_
      refine aw_p 4127739 (
        .a 4 21 <| .nil _ _) ?_
      refine aw_p 8255479 (
        .a 3 22 <|
        .p (does_c ((by have h := fmul_ok (Sp.qn (Sp.sh n1 d1 n2 d2)) (Sp.qd (Sp.sh n1 d1 n2 d2)) (by have := Sp.qn_bd (Sp.sh n1 d1 n2 d2); omega) (by have := Sp.qn_bd (Sp.sh n1 d1 n2 d2); omega) (by have := Sp.qd_bd (Sp.sh n1 d1 n2 d2); omega) (by have := Sp.qd_bd (Sp.sh n1 d1 n2 d2); omega) (Sp.qn (Sp.sh n3 d3 n4 d4)) (Sp.qd (Sp.sh n3 d3 n4 d4)) (by have := Sp.qn_bd (Sp.sh n3 d3 n4 d4); omega) (by have := Sp.qn_bd (Sp.sh n3 d3 n4 d4); omega) (by have := Sp.qd_bd (Sp.sh n3 d3 n4 d4); omega) (by have := Sp.qd_bd (Sp.sh n3 d3 n4 d4); omega); rw [(Sp.rv_fit (q := (Sp.sh n1 d1 n2 d2)) (Sp.fit_sh (by omega) (by omega) (by omega))), (Sp.rv_fit (q := (Sp.sh n3 d3 n4 d4)) (Sp.fit_sh (by omega) (by omega) (by omega)))] at h; exact h))) <|
        .a 6 22 <| .nil _ _) ?_
      refine aw_p1 (
        .a 3 23 <| .p (does_ap 24) <| .a 7 25 <| .nil _ _) ?_
      refine block_normal ?_
      refine then_normal ?_
      refine aw_p1 (
        .a 2 25 <| .nil _ _) ?_
      refine then_normal ?_
      refine al_round ?_
      refine aw_p 257983 (
        .a 1 25 <| .nil _ _) ?_
      refine aw_sq 515966 515967 ?_
      refine aw_fl 1031933 ?_
      refine aw_ex 2 ?_
      refine then_exit ?_
      refine then_exit ?_
      refine block_exit ?_
      refine block_normal ?_
      refine then_normal ?_
      refine aw_p1 (
        .a 2 25 <| .nil _ _) ?_
      refine then_normal ?_
      refine al_round ?_
      refine aw_p 1007 (
        .a 1 25 <| .nil _ _) ?_
      refine aw_sq 2014 2015 ?_
      refine aw_fl 4029 ?_
      refine aw_ex 0 ?_
      refine then_exit ?_
      refine then_exit ?_
      refine block_exit ?_
      refine then_normal ?_
      refine aw_p 127 (
        .a 2 25 <| .p (does_k [24] (around4F_ok ((Sp.sl n1 d1 n2 d2) * (Sp.sl n3 d3 n4 d4)) ((Sp.sl n1 d1 n2 d2) * (Sp.sh n3 d3 n4 d4)) ((Sp.sh n1 d1 n2 d2) * (Sp.sl n3 d3 n4 d4)) ((Sp.sh n1 d1 n2 d2) * (Sp.sh n3 d3 n4 d4)))) <| .a 4 25 <| .nil _ _) ?_
      refine aw_rt ?_
      exact en_ret [.agg #[.int .i64 0, .int .i64 0, .int .i64 0, .int .i64 0], .int .i64 2] (show (.tuple #[.agg #[.int .i64 0, .int .i64 0, .int .i64 0, .int .i64 0], .int .i64 2] : Value) = (.tuple #[.agg #[.int .i64 (Sp.m4n ((Sp.sl n1 d1 n2 d2) * (Sp.sl n3 d3 n4 d4)) ((Sp.sl n1 d1 n2 d2) * (Sp.sh n3 d3 n4 d4)) ((Sp.sh n1 d1 n2 d2) * (Sp.sl n3 d3 n4 d4)) ((Sp.sh n1 d1 n2 d2) * (Sp.sh n3 d3 n4 d4))), .int .i64 (Sp.m4d ((Sp.sl n1 d1 n2 d2) * (Sp.sl n3 d3 n4 d4)) ((Sp.sl n1 d1 n2 d2) * (Sp.sh n3 d3 n4 d4)) ((Sp.sh n1 d1 n2 d2) * (Sp.sl n3 d3 n4 d4)) ((Sp.sh n1 d1 n2 d2) * (Sp.sh n3 d3 n4 d4))), .int .i64 (Sp.x4n ((Sp.sl n1 d1 n2 d2) * (Sp.sl n3 d3 n4 d4)) ((Sp.sl n1 d1 n2 d2) * (Sp.sh n3 d3 n4 d4)) ((Sp.sh n1 d1 n2 d2) * (Sp.sl n3 d3 n4 d4)) ((Sp.sh n1 d1 n2 d2) * (Sp.sh n3 d3 n4 d4))), .int .i64 (Sp.x4d ((Sp.sl n1 d1 n2 d2) * (Sp.sl n3 d3 n4 d4)) ((Sp.sl n1 d1 n2 d2) * (Sp.sh n3 d3 n4 d4)) ((Sp.sh n1 d1 n2 d2) * (Sp.sl n3 d3 n4 d4)) ((Sp.sh n1 d1 n2 d2) * (Sp.sh n3 d3 n4 d4)))], .int .i64 (Sp.e4 ((Sp.sl n1 d1 n2 d2) * (Sp.sl n3 d3 n4 d4)) ((Sp.sl n1 d1 n2 d2) * (Sp.sh n3 d3 n4 d4)) ((Sp.sh n1 d1 n2 d2) * (Sp.sl n3 d3 n4 d4)) ((Sp.sh n1 d1 n2 d2) * (Sp.sh n3 d3 n4 d4)))]) from (congrArg (fun z : List Value => Value.tuple z.toArray) (lcons (congrArg (fun z : List Value => Value.agg z.toArray) (lcons (congrArg (Value.int .i64) (show 0 = (Sp.m4n ((Sp.sl n1 d1 n2 d2) * (Sp.sl n3 d3 n4 d4)) ((Sp.sl n1 d1 n2 d2) * (Sp.sh n3 d3 n4 d4)) ((Sp.sh n1 d1 n2 d2) * (Sp.sl n3 d3 n4 d4)) ((Sp.sh n1 d1 n2 d2) * (Sp.sh n3 d3 n4 d4))) from by (exact (Sp.s4_no (p := ((Sp.sl n1 d1 n2 d2) * (Sp.sl n3 d3 n4 d4))) (q := ((Sp.sl n1 d1 n2 d2) * (Sp.sh n3 d3 n4 d4))) (r := ((Sp.sh n1 d1 n2 d2) * (Sp.sl n3 d3 n4 d4))) (s := ((Sp.sh n1 d1 n2 d2) * (Sp.sh n3 d3 n4 d4))) (by simp [*])).1))) (lcons (congrArg (Value.int .i64) (show 0 = (Sp.m4d ((Sp.sl n1 d1 n2 d2) * (Sp.sl n3 d3 n4 d4)) ((Sp.sl n1 d1 n2 d2) * (Sp.sh n3 d3 n4 d4)) ((Sp.sh n1 d1 n2 d2) * (Sp.sl n3 d3 n4 d4)) ((Sp.sh n1 d1 n2 d2) * (Sp.sh n3 d3 n4 d4))) from by (exact (Sp.s4_no (p := ((Sp.sl n1 d1 n2 d2) * (Sp.sl n3 d3 n4 d4))) (q := ((Sp.sl n1 d1 n2 d2) * (Sp.sh n3 d3 n4 d4))) (r := ((Sp.sh n1 d1 n2 d2) * (Sp.sl n3 d3 n4 d4))) (s := ((Sp.sh n1 d1 n2 d2) * (Sp.sh n3 d3 n4 d4))) (by simp [*])).2.1))) (lcons (congrArg (Value.int .i64) (show 0 = (Sp.x4n ((Sp.sl n1 d1 n2 d2) * (Sp.sl n3 d3 n4 d4)) ((Sp.sl n1 d1 n2 d2) * (Sp.sh n3 d3 n4 d4)) ((Sp.sh n1 d1 n2 d2) * (Sp.sl n3 d3 n4 d4)) ((Sp.sh n1 d1 n2 d2) * (Sp.sh n3 d3 n4 d4))) from by (exact (Sp.s4_no (p := ((Sp.sl n1 d1 n2 d2) * (Sp.sl n3 d3 n4 d4))) (q := ((Sp.sl n1 d1 n2 d2) * (Sp.sh n3 d3 n4 d4))) (r := ((Sp.sh n1 d1 n2 d2) * (Sp.sl n3 d3 n4 d4))) (s := ((Sp.sh n1 d1 n2 d2) * (Sp.sh n3 d3 n4 d4))) (by simp [*])).2.2.1))) (lcons (congrArg (Value.int .i64) (show 0 = (Sp.x4d ((Sp.sl n1 d1 n2 d2) * (Sp.sl n3 d3 n4 d4)) ((Sp.sl n1 d1 n2 d2) * (Sp.sh n3 d3 n4 d4)) ((Sp.sh n1 d1 n2 d2) * (Sp.sl n3 d3 n4 d4)) ((Sp.sh n1 d1 n2 d2) * (Sp.sh n3 d3 n4 d4))) from by (exact (Sp.s4_no (p := ((Sp.sl n1 d1 n2 d2) * (Sp.sl n3 d3 n4 d4))) (q := ((Sp.sl n1 d1 n2 d2) * (Sp.sh n3 d3 n4 d4))) (r := ((Sp.sh n1 d1 n2 d2) * (Sp.sl n3 d3 n4 d4))) (s := ((Sp.sh n1 d1 n2 d2) * (Sp.sh n3 d3 n4 d4))) (by simp [*])).2.2.2.1))) rfl))))) (lcons (congrArg (Value.int .i64) (show 2 = (Sp.e4 ((Sp.sl n1 d1 n2 d2) * (Sp.sl n3 d3 n4 d4)) ((Sp.sl n1 d1 n2 d2) * (Sp.sh n3 d3 n4 d4)) ((Sp.sh n1 d1 n2 d2) * (Sp.sl n3 d3 n4 d4)) ((Sp.sh n1 d1 n2 d2) * (Sp.sh n3 d3 n4 d4))) from by (exact (Sp.s4_no (p := ((Sp.sl n1 d1 n2 d2) * (Sp.sl n3 d3 n4 d4))) (q := ((Sp.sl n1 d1 n2 d2) * (Sp.sh n3 d3 n4 d4))) (r := ((Sp.sh n1 d1 n2 d2) * (Sp.sl n3 d3 n4 d4))) (s := ((Sp.sh n1 d1 n2 d2) * (Sp.sh n3 d3 n4 d4))) (by simp [*])).2.2.2.2))) rfl))))
  · have h1p : ¬ (Sp.fitq ((Sp.sl n1 d1 n2 d2) * (Sp.sl n3 d3 n4 d4))) = true := by simpa using h1
    refine aw_p1 (
      .a 3 13 <| .p (does_ap 14) <| .p (does_b false (h1)) <| .a 6 15 <| .nil _ _) ?_
    refine block_normal ?_
    refine then_normal ?_
    refine aw_p1 (
      .a 2 15 <| .nil _ _) ?_
    refine then_normal ?_
    refine al_round ?_
    refine aw_p 257983 (
      .a 1 15 <| .nil _ _) ?_
    refine aw_sq 515966 515967 ?_
    refine aw_fl 1031933 ?_
    refine aw_ex 2 ?_
    refine then_exit ?_
    refine then_exit ?_
    refine block_exit ?_
    refine block_normal ?_
    refine then_normal ?_
    refine aw_p1 (
      .a 2 15 <| .nil _ _) ?_
    refine then_normal ?_
    refine al_round ?_
    refine aw_p 1007 (
      .a 1 15 <| .nil _ _) ?_
    refine aw_sq 2014 2015 ?_
    refine aw_tr 4028 ?_
    refine aw_sk ?_
    refine then_normal ?_
    refine aw_sq 4030 4031 ?_
    refine aw_bl 1 8061 ?_
    refine aw_p 16123 (
      .a 4 15 <| .nil _ _) ?_
    refine aw_p 32247 (
      .a 7 16 <| .nil _ _) ?_
    refine aw_bl 2 64495 ?_
    refine aw_lp 128991 ?_
    refine al_round ?_
    refine aw_p 257983 (
      .a 1 17 <| .nil _ _) ?_
    refine aw_sq 515966 515967 ?_
    refine aw_tr 1031932 ?_
    refine aw_sk ?_
    refine then_normal ?_
    refine aw_sq 1031934 1031935 ?_
    refine aw_bl 3 2063869 ?_
    refine aw_p 4127739 (
      .a 4 17 <| .nil _ _) ?_
    refine aw_p 8255479 (
      .a 3 18 <|
      .p (does_c ((by have h := fmul_ok (Sp.qn (Sp.sh n1 d1 n2 d2)) (Sp.qd (Sp.sh n1 d1 n2 d2)) (by have := Sp.qn_bd (Sp.sh n1 d1 n2 d2); omega) (by have := Sp.qn_bd (Sp.sh n1 d1 n2 d2); omega) (by have := Sp.qd_bd (Sp.sh n1 d1 n2 d2); omega) (by have := Sp.qd_bd (Sp.sh n1 d1 n2 d2); omega) (Sp.qn (Sp.sl n3 d3 n4 d4)) (Sp.qd (Sp.sl n3 d3 n4 d4)) (by have := Sp.qn_bd (Sp.sl n3 d3 n4 d4); omega) (by have := Sp.qn_bd (Sp.sl n3 d3 n4 d4); omega) (by have := Sp.qd_bd (Sp.sl n3 d3 n4 d4); omega) (by have := Sp.qd_bd (Sp.sl n3 d3 n4 d4); omega); rw [(Sp.rv_fit (q := (Sp.sh n1 d1 n2 d2)) (Sp.fit_sh (by omega) (by omega) (by omega))), (Sp.rv_fit (q := (Sp.sl n3 d3 n4 d4)) (Sp.fit_sl (by omega) (by omega) (by omega)))] at h; exact h))) <|
      .a 6 18 <| .nil _ _) ?_
    refine aw_p1 (
      .a 3 19 <| .p (does_ap 20) <| .a 7 21 <| .nil _ _) ?_
    refine block_normal ?_
    refine then_normal ?_
    refine aw_p1 (
      .a 2 21 <| .nil _ _) ?_
    refine then_normal ?_
    refine al_round ?_
    refine aw_p 257983 (
      .a 1 21 <| .nil _ _) ?_
    refine aw_sq 515966 515967 ?_
    refine aw_tr 1031932 ?_
    refine aw_sk ?_
    refine then_normal ?_
    refine aw_sq 1031934 1031935 ?_
    refine aw_bl 3 2063869 ?_
    refine aw_p 4127739 (
      .a 4 21 <| .nil _ _) ?_
    refine aw_p 8255479 (
      .a 3 22 <|
      .p (does_c ((by have h := fmul_ok (Sp.qn (Sp.sh n1 d1 n2 d2)) (Sp.qd (Sp.sh n1 d1 n2 d2)) (by have := Sp.qn_bd (Sp.sh n1 d1 n2 d2); omega) (by have := Sp.qn_bd (Sp.sh n1 d1 n2 d2); omega) (by have := Sp.qd_bd (Sp.sh n1 d1 n2 d2); omega) (by have := Sp.qd_bd (Sp.sh n1 d1 n2 d2); omega) (Sp.qn (Sp.sh n3 d3 n4 d4)) (Sp.qd (Sp.sh n3 d3 n4 d4)) (by have := Sp.qn_bd (Sp.sh n3 d3 n4 d4); omega) (by have := Sp.qn_bd (Sp.sh n3 d3 n4 d4); omega) (by have := Sp.qd_bd (Sp.sh n3 d3 n4 d4); omega) (by have := Sp.qd_bd (Sp.sh n3 d3 n4 d4); omega); rw [(Sp.rv_fit (q := (Sp.sh n1 d1 n2 d2)) (Sp.fit_sh (by omega) (by omega) (by omega))), (Sp.rv_fit (q := (Sp.sh n3 d3 n4 d4)) (Sp.fit_sh (by omega) (by omega) (by omega)))] at h; exact h))) <|
      .a 6 22 <| .nil _ _) ?_
    refine aw_p1 (
      .a 3 23 <| .p (does_ap 24) <| .a 7 25 <| .nil _ _) ?_
    refine block_normal ?_
    refine then_normal ?_
    refine aw_p1 (
      .a 2 25 <| .nil _ _) ?_
    refine then_normal ?_
    refine al_round ?_
    refine aw_p 257983 (
      .a 1 25 <| .nil _ _) ?_
    refine aw_sq 515966 515967 ?_
    refine aw_fl 1031933 ?_
    refine aw_ex 2 ?_
    refine then_exit ?_
    refine then_exit ?_
    refine block_exit ?_
    refine block_normal ?_
    refine then_normal ?_
    refine aw_p1 (
      .a 2 25 <| .nil _ _) ?_
    refine then_normal ?_
    refine al_round ?_
    refine aw_p 1007 (
      .a 1 25 <| .nil _ _) ?_
    refine aw_sq 2014 2015 ?_
    refine aw_fl 4029 ?_
    refine aw_ex 0 ?_
    refine then_exit ?_
    refine then_exit ?_
    refine block_exit ?_
    refine then_normal ?_
    refine aw_p 127 (
      .a 2 25 <| .p (does_k [24] (around4F_ok ((Sp.sl n1 d1 n2 d2) * (Sp.sl n3 d3 n4 d4)) ((Sp.sl n1 d1 n2 d2) * (Sp.sh n3 d3 n4 d4)) ((Sp.sh n1 d1 n2 d2) * (Sp.sl n3 d3 n4 d4)) ((Sp.sh n1 d1 n2 d2) * (Sp.sh n3 d3 n4 d4)))) <| .a 4 25 <| .nil _ _) ?_
    refine aw_rt ?_
    exact en_ret [.agg #[.int .i64 0, .int .i64 0, .int .i64 0, .int .i64 0], .int .i64 2] (show (.tuple #[.agg #[.int .i64 0, .int .i64 0, .int .i64 0, .int .i64 0], .int .i64 2] : Value) = (.tuple #[.agg #[.int .i64 (Sp.m4n ((Sp.sl n1 d1 n2 d2) * (Sp.sl n3 d3 n4 d4)) ((Sp.sl n1 d1 n2 d2) * (Sp.sh n3 d3 n4 d4)) ((Sp.sh n1 d1 n2 d2) * (Sp.sl n3 d3 n4 d4)) ((Sp.sh n1 d1 n2 d2) * (Sp.sh n3 d3 n4 d4))), .int .i64 (Sp.m4d ((Sp.sl n1 d1 n2 d2) * (Sp.sl n3 d3 n4 d4)) ((Sp.sl n1 d1 n2 d2) * (Sp.sh n3 d3 n4 d4)) ((Sp.sh n1 d1 n2 d2) * (Sp.sl n3 d3 n4 d4)) ((Sp.sh n1 d1 n2 d2) * (Sp.sh n3 d3 n4 d4))), .int .i64 (Sp.x4n ((Sp.sl n1 d1 n2 d2) * (Sp.sl n3 d3 n4 d4)) ((Sp.sl n1 d1 n2 d2) * (Sp.sh n3 d3 n4 d4)) ((Sp.sh n1 d1 n2 d2) * (Sp.sl n3 d3 n4 d4)) ((Sp.sh n1 d1 n2 d2) * (Sp.sh n3 d3 n4 d4))), .int .i64 (Sp.x4d ((Sp.sl n1 d1 n2 d2) * (Sp.sl n3 d3 n4 d4)) ((Sp.sl n1 d1 n2 d2) * (Sp.sh n3 d3 n4 d4)) ((Sp.sh n1 d1 n2 d2) * (Sp.sl n3 d3 n4 d4)) ((Sp.sh n1 d1 n2 d2) * (Sp.sh n3 d3 n4 d4)))], .int .i64 (Sp.e4 ((Sp.sl n1 d1 n2 d2) * (Sp.sl n3 d3 n4 d4)) ((Sp.sl n1 d1 n2 d2) * (Sp.sh n3 d3 n4 d4)) ((Sp.sh n1 d1 n2 d2) * (Sp.sl n3 d3 n4 d4)) ((Sp.sh n1 d1 n2 d2) * (Sp.sh n3 d3 n4 d4)))]) from (congrArg (fun z : List Value => Value.tuple z.toArray) (lcons (congrArg (fun z : List Value => Value.agg z.toArray) (lcons (congrArg (Value.int .i64) (show 0 = (Sp.m4n ((Sp.sl n1 d1 n2 d2) * (Sp.sl n3 d3 n4 d4)) ((Sp.sl n1 d1 n2 d2) * (Sp.sh n3 d3 n4 d4)) ((Sp.sh n1 d1 n2 d2) * (Sp.sl n3 d3 n4 d4)) ((Sp.sh n1 d1 n2 d2) * (Sp.sh n3 d3 n4 d4))) from by (exact (Sp.s4_no (p := ((Sp.sl n1 d1 n2 d2) * (Sp.sl n3 d3 n4 d4))) (q := ((Sp.sl n1 d1 n2 d2) * (Sp.sh n3 d3 n4 d4))) (r := ((Sp.sh n1 d1 n2 d2) * (Sp.sl n3 d3 n4 d4))) (s := ((Sp.sh n1 d1 n2 d2) * (Sp.sh n3 d3 n4 d4))) (by simp [*])).1))) (lcons (congrArg (Value.int .i64) (show 0 = (Sp.m4d ((Sp.sl n1 d1 n2 d2) * (Sp.sl n3 d3 n4 d4)) ((Sp.sl n1 d1 n2 d2) * (Sp.sh n3 d3 n4 d4)) ((Sp.sh n1 d1 n2 d2) * (Sp.sl n3 d3 n4 d4)) ((Sp.sh n1 d1 n2 d2) * (Sp.sh n3 d3 n4 d4))) from by (exact (Sp.s4_no (p := ((Sp.sl n1 d1 n2 d2) * (Sp.sl n3 d3 n4 d4))) (q := ((Sp.sl n1 d1 n2 d2) * (Sp.sh n3 d3 n4 d4))) (r := ((Sp.sh n1 d1 n2 d2) * (Sp.sl n3 d3 n4 d4))) (s := ((Sp.sh n1 d1 n2 d2) * (Sp.sh n3 d3 n4 d4))) (by simp [*])).2.1))) (lcons (congrArg (Value.int .i64) (show 0 = (Sp.x4n ((Sp.sl n1 d1 n2 d2) * (Sp.sl n3 d3 n4 d4)) ((Sp.sl n1 d1 n2 d2) * (Sp.sh n3 d3 n4 d4)) ((Sp.sh n1 d1 n2 d2) * (Sp.sl n3 d3 n4 d4)) ((Sp.sh n1 d1 n2 d2) * (Sp.sh n3 d3 n4 d4))) from by (exact (Sp.s4_no (p := ((Sp.sl n1 d1 n2 d2) * (Sp.sl n3 d3 n4 d4))) (q := ((Sp.sl n1 d1 n2 d2) * (Sp.sh n3 d3 n4 d4))) (r := ((Sp.sh n1 d1 n2 d2) * (Sp.sl n3 d3 n4 d4))) (s := ((Sp.sh n1 d1 n2 d2) * (Sp.sh n3 d3 n4 d4))) (by simp [*])).2.2.1))) (lcons (congrArg (Value.int .i64) (show 0 = (Sp.x4d ((Sp.sl n1 d1 n2 d2) * (Sp.sl n3 d3 n4 d4)) ((Sp.sl n1 d1 n2 d2) * (Sp.sh n3 d3 n4 d4)) ((Sp.sh n1 d1 n2 d2) * (Sp.sl n3 d3 n4 d4)) ((Sp.sh n1 d1 n2 d2) * (Sp.sh n3 d3 n4 d4))) from by (exact (Sp.s4_no (p := ((Sp.sl n1 d1 n2 d2) * (Sp.sl n3 d3 n4 d4))) (q := ((Sp.sl n1 d1 n2 d2) * (Sp.sh n3 d3 n4 d4))) (r := ((Sp.sh n1 d1 n2 d2) * (Sp.sl n3 d3 n4 d4))) (s := ((Sp.sh n1 d1 n2 d2) * (Sp.sh n3 d3 n4 d4))) (by simp [*])).2.2.2.1))) rfl))))) (lcons (congrArg (Value.int .i64) (show 2 = (Sp.e4 ((Sp.sl n1 d1 n2 d2) * (Sp.sl n3 d3 n4 d4)) ((Sp.sl n1 d1 n2 d2) * (Sp.sh n3 d3 n4 d4)) ((Sp.sh n1 d1 n2 d2) * (Sp.sl n3 d3 n4 d4)) ((Sp.sh n1 d1 n2 d2) * (Sp.sh n3 d3 n4 d4))) from by (exact (Sp.s4_no (p := ((Sp.sl n1 d1 n2 d2) * (Sp.sl n3 d3 n4 d4))) (q := ((Sp.sl n1 d1 n2 d2) * (Sp.sh n3 d3 n4 d4))) (r := ((Sp.sh n1 d1 n2 d2) * (Sp.sl n3 d3 n4 d4))) (s := ((Sp.sh n1 d1 n2 d2) * (Sp.sh n3 d3 n4 d4))) (by simp [*])).2.2.2.2))) rfl))))

theorem eachD_ok (n1 d1 : Int) (zln1 : -9223372036854775808 ≤ n1) (zun1 : n1 ≤ 9223372036854775807) (zld1 : -9223372036854775808 ≤ d1) (zud1 : d1 ≤ 9223372036854775807) (n2 d2 : Int) (zln2 : -9223372036854775808 ≤ n2) (zun2 : n2 ≤ 9223372036854775807) (zld2 : -9223372036854775808 ≤ d2) (zud2 : d2 ≤ 9223372036854775807) (n3 d3 : Int) (zln3 : -9223372036854775808 ≤ n3) (zun3 : n3 ≤ 9223372036854775807) (zld3 : -9223372036854775808 ≤ d3) (zud3 : d3 ≤ 9223372036854775807) (n4 d4 : Int) (zln4 : -9223372036854775808 ≤ n4) (zun4 : n4 ≤ 9223372036854775807) (zld4 : -9223372036854775808 ≤ d4) (zud4 : d4 ≤ 9223372036854775807) (nz1 : Sp.sl n3 d3 n4 d4 ≠ 0) (nz2 : Sp.sh n3 d3 n4 d4 ≠ 0) :
    AC Tryz.prog 61 0 ([.agg #[.int .i64 n1, .int .i64 d1, .int .i64 n2, .int .i64 d2], .agg #[.int .i64 n3, .int .i64 d3, .int .i64 n4, .int .i64 d4], .func (.func 62) #[] #[]]) [] (.tuple #[.agg #[.int .i64 (Sp.m4n ((Sp.sl n1 d1 n2 d2) / (Sp.sl n3 d3 n4 d4)) ((Sp.sl n1 d1 n2 d2) / (Sp.sh n3 d3 n4 d4)) ((Sp.sh n1 d1 n2 d2) / (Sp.sl n3 d3 n4 d4)) ((Sp.sh n1 d1 n2 d2) / (Sp.sh n3 d3 n4 d4))), .int .i64 (Sp.m4d ((Sp.sl n1 d1 n2 d2) / (Sp.sl n3 d3 n4 d4)) ((Sp.sl n1 d1 n2 d2) / (Sp.sh n3 d3 n4 d4)) ((Sp.sh n1 d1 n2 d2) / (Sp.sl n3 d3 n4 d4)) ((Sp.sh n1 d1 n2 d2) / (Sp.sh n3 d3 n4 d4))), .int .i64 (Sp.x4n ((Sp.sl n1 d1 n2 d2) / (Sp.sl n3 d3 n4 d4)) ((Sp.sl n1 d1 n2 d2) / (Sp.sh n3 d3 n4 d4)) ((Sp.sh n1 d1 n2 d2) / (Sp.sl n3 d3 n4 d4)) ((Sp.sh n1 d1 n2 d2) / (Sp.sh n3 d3 n4 d4))), .int .i64 (Sp.x4d ((Sp.sl n1 d1 n2 d2) / (Sp.sl n3 d3 n4 d4)) ((Sp.sl n1 d1 n2 d2) / (Sp.sh n3 d3 n4 d4)) ((Sp.sh n1 d1 n2 d2) / (Sp.sl n3 d3 n4 d4)) ((Sp.sh n1 d1 n2 d2) / (Sp.sh n3 d3 n4 d4)))], .int .i64 (Sp.e4 ((Sp.sl n1 d1 n2 d2) / (Sp.sl n3 d3 n4 d4)) ((Sp.sl n1 d1 n2 d2) / (Sp.sh n3 d3 n4 d4)) ((Sp.sh n1 d1 n2 d2) / (Sp.sl n3 d3 n4 d4)) ((Sp.sh n1 d1 n2 d2) / (Sp.sh n3 d3 n4 d4)))]) [] := by
  refine ac_in Tryz.func61 (fun w0 W pin => ?_)
  refine aw_p 3 (
    .a 4 1 <| .nil _ _) ?_
  refine aw_d 7 (
    .a 1 4 <| .p (does_c (sfit_ok n1 d1 (by omega) (by omega) (by omega) (by omega) n2 d2 (by omega) (by omega) (by omega) (by omega))) <| .a 1 4 <| .p (does_c (sfit_ok n3 d3 (by omega) (by omega) (by omega) (by omega) n4 d4 (by omega) (by omega) (by omega) (by omega))) <| .a 2 4 <| .nil _ _) ?_
  refine aw_p 15 (
    .a 1 4 <| .nil _ _) ?_
  refine aw_p 31 (
    .a 1 4 <| .nil _ _) ?_
  refine aw_sq 62 63 ?_
  refine aw_p 125 (
    .a 7 4 <| .nil _ _) ?_
  refine aw_bl 0 251 ?_
  refine aw_lp 503 ?_
  refine al_round ?_
  refine aw_p 1007 (
    .a 1 5 <| .nil _ _) ?_
  refine aw_sq 2014 2015 ?_
  refine aw_tr 4028 ?_
  refine aw_sk ?_
  refine then_normal ?_
  refine aw_sq 4030 4031 ?_
  refine aw_bl 1 8061 ?_
  refine aw_p 16123 (
    .a 4 5 <| .nil _ _) ?_
  refine aw_p 32247 (
    .a 7 6 <| .nil _ _) ?_
  refine aw_bl 2 64495 ?_
  refine aw_lp 128991 ?_
  refine al_round ?_
  refine aw_p 257983 (
    .a 1 7 <| .nil _ _) ?_
  refine aw_sq 515966 515967 ?_
  refine aw_tr 1031932 ?_
  refine aw_sk ?_
  refine then_normal ?_
  refine aw_sq 1031934 1031935 ?_
  refine aw_bl 3 2063869 ?_
  refine aw_p 4127739 (
    .a 4 7 <| .nil _ _) ?_
  refine aw_p 8255479 (
    .a 3 8 <|
    .p (does_c ((by have h := fdiv_ok (Sp.qn (Sp.sl n1 d1 n2 d2)) (Sp.qd (Sp.sl n1 d1 n2 d2)) (by have := Sp.qn_bd (Sp.sl n1 d1 n2 d2); omega) (by have := Sp.qn_bd (Sp.sl n1 d1 n2 d2); omega) (by have := Sp.qd_bd (Sp.sl n1 d1 n2 d2); omega) (by have := Sp.qd_bd (Sp.sl n1 d1 n2 d2); omega) (Sp.qn (Sp.sl n3 d3 n4 d4)) (Sp.qd (Sp.sl n3 d3 n4 d4)) (by have := Sp.qn_bd (Sp.sl n3 d3 n4 d4); omega) (by have := Sp.qn_bd (Sp.sl n3 d3 n4 d4); omega) (by have := Sp.qd_bd (Sp.sl n3 d3 n4 d4); omega) (by have := Sp.qd_bd (Sp.sl n3 d3 n4 d4); omega); rw [(Sp.rv_fit (q := (Sp.sl n1 d1 n2 d2)) (Sp.fit_sl (by omega) (by omega) (by omega))), (Sp.rv_fit (q := (Sp.sl n3 d3 n4 d4)) (Sp.fit_sl (by omega) (by omega) (by omega))), (Sp.dv_yes (a := (Sp.sl n1 d1 n2 d2)) nz1).1, (Sp.dv_yes (a := (Sp.sl n1 d1 n2 d2)) nz1).2.1, (Sp.dv_yes (a := (Sp.sl n1 d1 n2 d2)) nz1).2.2] at h; exact h))) <|
    .a 6 8 <| .nil _ _) ?_
  refine aw_p1 (
    .a 3 9 <| .p (does_ap 10) <| .a 3 11 <| .p (does_b (Sp.fitq ((Sp.sl n1 d1 n2 d2) / (Sp.sl n3 d3 n4 d4))) ((Sp.qe_eq0 ((Sp.sl n1 d1 n2 d2) / (Sp.sl n3 d3 n4 d4))))) <| .a 3 11 <| .nil _ _) ?_
  refine block_normal ?_
  refine then_normal ?_
  refine aw_p1 (
    .a 2 11 <| .nil _ _) ?_
  refine then_normal ?_
  refine al_round ?_
  refine aw_p 257983 (
    .a 1 11 <| .nil _ _) ?_
  refine aw_sq 515966 515967 ?_
  refine aw_tr 1031932 ?_
  refine aw_sk ?_
  refine then_normal ?_
  refine aw_sq 1031934 1031935 ?_
  refine aw_bl 3 2063869 ?_
  refine aw_p 4127739 (
    .a 4 11 <| .nil _ _) ?_
  refine aw_p 8255479 (
    .a 3 12 <|
    .p (does_c ((by have h := fdiv_ok (Sp.qn (Sp.sl n1 d1 n2 d2)) (Sp.qd (Sp.sl n1 d1 n2 d2)) (by have := Sp.qn_bd (Sp.sl n1 d1 n2 d2); omega) (by have := Sp.qn_bd (Sp.sl n1 d1 n2 d2); omega) (by have := Sp.qd_bd (Sp.sl n1 d1 n2 d2); omega) (by have := Sp.qd_bd (Sp.sl n1 d1 n2 d2); omega) (Sp.qn (Sp.sh n3 d3 n4 d4)) (Sp.qd (Sp.sh n3 d3 n4 d4)) (by have := Sp.qn_bd (Sp.sh n3 d3 n4 d4); omega) (by have := Sp.qn_bd (Sp.sh n3 d3 n4 d4); omega) (by have := Sp.qd_bd (Sp.sh n3 d3 n4 d4); omega) (by have := Sp.qd_bd (Sp.sh n3 d3 n4 d4); omega); rw [(Sp.rv_fit (q := (Sp.sl n1 d1 n2 d2)) (Sp.fit_sl (by omega) (by omega) (by omega))), (Sp.rv_fit (q := (Sp.sh n3 d3 n4 d4)) (Sp.fit_sh (by omega) (by omega) (by omega))), (Sp.dv_yes (a := (Sp.sl n1 d1 n2 d2)) nz2).1, (Sp.dv_yes (a := (Sp.sl n1 d1 n2 d2)) nz2).2.1, (Sp.dv_yes (a := (Sp.sl n1 d1 n2 d2)) nz2).2.2] at h; exact h))) <|
    .a 6 12 <| .nil _ _) ?_
  rcases Bool.eq_false_or_eq_true (Sp.fitq ((Sp.sl n1 d1 n2 d2) / (Sp.sl n3 d3 n4 d4))) with h1 | h1
  · have h1p : (Sp.fitq ((Sp.sl n1 d1 n2 d2) / (Sp.sl n3 d3 n4 d4))) = true := by simpa using h1
    refine aw_p1 (
      .a 3 13 <| .p (does_ap 14) <| .p (does_b true (h1)) <| .a 2 15 <| .p (does_b (Sp.fitq ((Sp.sl n1 d1 n2 d2) / (Sp.sh n3 d3 n4 d4))) ((Sp.qe_eq0 ((Sp.sl n1 d1 n2 d2) / (Sp.sh n3 d3 n4 d4))))) <| .a 3 15 <| .nil _ _) ?_
    refine block_normal ?_
    refine then_normal ?_
    refine aw_p1 (
      .a 2 15 <| .nil _ _) ?_
    refine then_normal ?_
    refine al_round ?_
    refine aw_p 257983 (
      .a 1 15 <| .nil _ _) ?_
    refine aw_sq 515966 515967 ?_
    refine aw_fl 1031933 ?_
    refine aw_ex 2 ?_
    refine then_exit ?_
    refine then_exit ?_
    refine block_exit ?_
    refine block_normal ?_
    refine then_normal ?_
    refine aw_p1 (
      .a 2 15 <| .nil _ _) ?_
    refine then_normal ?_
    refine al_round ?_
    refine aw_p 1007 (
      .a 1 15 <| .nil _ _) ?_
    refine aw_sq 2014 2015 ?_
    refine aw_tr 4028 ?_
    refine aw_sk ?_
    refine then_normal ?_
    refine aw_sq 4030 4031 ?_
    refine aw_bl 1 8061 ?_
    refine aw_p 16123 (
      .a 4 15 <| .nil _ _) ?_
    refine aw_p 32247 (
      .a 7 16 <| .nil _ _) ?_
    refine aw_bl 2 64495 ?_
    refine aw_lp 128991 ?_
    refine al_round ?_
    refine aw_p 257983 (
      .a 1 17 <| .nil _ _) ?_
    refine aw_sq 515966 515967 ?_
    refine aw_tr 1031932 ?_
    refine aw_sk ?_
    refine then_normal ?_
    refine aw_sq 1031934 1031935 ?_
    refine aw_bl 3 2063869 ?_
    refine aw_p 4127739 (
      .a 4 17 <| .nil _ _) ?_
    refine aw_p 8255479 (
      .a 3 18 <|
      .p (does_c ((by have h := fdiv_ok (Sp.qn (Sp.sh n1 d1 n2 d2)) (Sp.qd (Sp.sh n1 d1 n2 d2)) (by have := Sp.qn_bd (Sp.sh n1 d1 n2 d2); omega) (by have := Sp.qn_bd (Sp.sh n1 d1 n2 d2); omega) (by have := Sp.qd_bd (Sp.sh n1 d1 n2 d2); omega) (by have := Sp.qd_bd (Sp.sh n1 d1 n2 d2); omega) (Sp.qn (Sp.sl n3 d3 n4 d4)) (Sp.qd (Sp.sl n3 d3 n4 d4)) (by have := Sp.qn_bd (Sp.sl n3 d3 n4 d4); omega) (by have := Sp.qn_bd (Sp.sl n3 d3 n4 d4); omega) (by have := Sp.qd_bd (Sp.sl n3 d3 n4 d4); omega) (by have := Sp.qd_bd (Sp.sl n3 d3 n4 d4); omega); rw [(Sp.rv_fit (q := (Sp.sh n1 d1 n2 d2)) (Sp.fit_sh (by omega) (by omega) (by omega))), (Sp.rv_fit (q := (Sp.sl n3 d3 n4 d4)) (Sp.fit_sl (by omega) (by omega) (by omega))), (Sp.dv_yes (a := (Sp.sh n1 d1 n2 d2)) nz1).1, (Sp.dv_yes (a := (Sp.sh n1 d1 n2 d2)) nz1).2.1, (Sp.dv_yes (a := (Sp.sh n1 d1 n2 d2)) nz1).2.2] at h; exact h))) <|
      .a 6 18 <| .nil _ _) ?_
    rcases Bool.eq_false_or_eq_true (Sp.fitq ((Sp.sl n1 d1 n2 d2) / (Sp.sh n3 d3 n4 d4))) with h2 | h2
    · have h2p : (Sp.fitq ((Sp.sl n1 d1 n2 d2) / (Sp.sh n3 d3 n4 d4))) = true := by simpa using h2
      refine aw_p1 (
        .a 3 19 <| .p (does_ap 20) <| .p (does_b true (h2)) <| .a 2 21 <| .p (does_b (Sp.fitq ((Sp.sh n1 d1 n2 d2) / (Sp.sl n3 d3 n4 d4))) ((Sp.qe_eq0 ((Sp.sh n1 d1 n2 d2) / (Sp.sl n3 d3 n4 d4))))) <| .a 3 21 <| .nil _ _) ?_
      refine block_normal ?_
      refine then_normal ?_
      refine aw_p1 (
        .a 2 21 <| .nil _ _) ?_
      refine then_normal ?_
      refine al_round ?_
      refine aw_p 257983 (
        .a 1 21 <| .nil _ _) ?_
      refine aw_sq 515966 515967 ?_
      refine aw_tr 1031932 ?_
      refine aw_sk ?_
      refine then_normal ?_
      refine aw_sq 1031934 1031935 ?_
      refine aw_bl 3 2063869 ?_
      refine aw_p 4127739 (
        .a 4 21 <| .nil _ _) ?_
      refine aw_p 8255479 (
        .a 3 22 <|
        .p (does_c ((by have h := fdiv_ok (Sp.qn (Sp.sh n1 d1 n2 d2)) (Sp.qd (Sp.sh n1 d1 n2 d2)) (by have := Sp.qn_bd (Sp.sh n1 d1 n2 d2); omega) (by have := Sp.qn_bd (Sp.sh n1 d1 n2 d2); omega) (by have := Sp.qd_bd (Sp.sh n1 d1 n2 d2); omega) (by have := Sp.qd_bd (Sp.sh n1 d1 n2 d2); omega) (Sp.qn (Sp.sh n3 d3 n4 d4)) (Sp.qd (Sp.sh n3 d3 n4 d4)) (by have := Sp.qn_bd (Sp.sh n3 d3 n4 d4); omega) (by have := Sp.qn_bd (Sp.sh n3 d3 n4 d4); omega) (by have := Sp.qd_bd (Sp.sh n3 d3 n4 d4); omega) (by have := Sp.qd_bd (Sp.sh n3 d3 n4 d4); omega); rw [(Sp.rv_fit (q := (Sp.sh n1 d1 n2 d2)) (Sp.fit_sh (by omega) (by omega) (by omega))), (Sp.rv_fit (q := (Sp.sh n3 d3 n4 d4)) (Sp.fit_sh (by omega) (by omega) (by omega))), (Sp.dv_yes (a := (Sp.sh n1 d1 n2 d2)) nz2).1, (Sp.dv_yes (a := (Sp.sh n1 d1 n2 d2)) nz2).2.1, (Sp.dv_yes (a := (Sp.sh n1 d1 n2 d2)) nz2).2.2] at h; exact h))) <|
        .a 6 22 <| .nil _ _) ?_
      rcases Bool.eq_false_or_eq_true (Sp.fitq ((Sp.sh n1 d1 n2 d2) / (Sp.sl n3 d3 n4 d4))) with h3 | h3
      · have h3p : (Sp.fitq ((Sp.sh n1 d1 n2 d2) / (Sp.sl n3 d3 n4 d4))) = true := by simpa using h3
        refine aw_p1 (
          .a 3 23 <| .p (does_ap 24) <| .p (does_b true (h3)) <| .a 2 25 <| .p (does_b (Sp.fitq ((Sp.sh n1 d1 n2 d2) / (Sp.sh n3 d3 n4 d4))) ((Sp.qe_eq0 ((Sp.sh n1 d1 n2 d2) / (Sp.sh n3 d3 n4 d4))))) <| .a 3 25 <| .nil _ _) ?_
        refine block_normal ?_
        refine then_normal ?_
        refine aw_p1 (
          .a 2 25 <| .nil _ _) ?_
        refine then_normal ?_
        refine al_round ?_
        refine aw_p 257983 (
          .a 1 25 <| .nil _ _) ?_
        refine aw_sq 515966 515967 ?_
        refine aw_fl 1031933 ?_
        refine aw_ex 2 ?_
        refine then_exit ?_
        refine then_exit ?_
        refine block_exit ?_
        refine block_normal ?_
        refine then_normal ?_
        refine aw_p1 (
          .a 2 25 <| .nil _ _) ?_
        refine then_normal ?_
        refine al_round ?_
        refine aw_p 1007 (
          .a 1 25 <| .nil _ _) ?_
        refine aw_sq 2014 2015 ?_
        refine aw_fl 4029 ?_
        refine aw_ex 0 ?_
        refine then_exit ?_
        refine then_exit ?_
        refine block_exit ?_
        refine then_normal ?_
        rcases Bool.eq_false_or_eq_true (Sp.fitq ((Sp.sh n1 d1 n2 d2) / (Sp.sh n3 d3 n4 d4))) with h4 | h4
        · have h4p : (Sp.fitq ((Sp.sh n1 d1 n2 d2) / (Sp.sh n3 d3 n4 d4))) = true := by simpa using h4
          refine aw_p 127 (
            .a 1 25 <| .p (does_b true (h4)) <|
            .p (does_k [24] (around4T_ok ((Sp.sl n1 d1 n2 d2) / (Sp.sl n3 d3 n4 d4)) ((Sp.sl n1 d1 n2 d2) / (Sp.sh n3 d3 n4 d4)) ((Sp.sh n1 d1 n2 d2) / (Sp.sl n3 d3 n4 d4)) ((Sp.sh n1 d1 n2 d2) / (Sp.sh n3 d3 n4 d4)) (by assumption) (by assumption) (by assumption) (by assumption))) <| .a 4 25 <| .nil _ _) ?_
          refine aw_rt ?_
          exact en_ret [.agg #[.int .i64 (Sp.qn (Sp.rmin (Sp.rmin (Sp.rmin ((Sp.sl n1 d1 n2 d2) / (Sp.sl n3 d3 n4 d4)) ((Sp.sl n1 d1 n2 d2) / (Sp.sh n3 d3 n4 d4))) ((Sp.sh n1 d1 n2 d2) / (Sp.sl n3 d3 n4 d4))) ((Sp.sh n1 d1 n2 d2) / (Sp.sh n3 d3 n4 d4)))), .int .i64 (Sp.qd (Sp.rmin (Sp.rmin (Sp.rmin ((Sp.sl n1 d1 n2 d2) / (Sp.sl n3 d3 n4 d4)) ((Sp.sl n1 d1 n2 d2) / (Sp.sh n3 d3 n4 d4))) ((Sp.sh n1 d1 n2 d2) / (Sp.sl n3 d3 n4 d4))) ((Sp.sh n1 d1 n2 d2) / (Sp.sh n3 d3 n4 d4)))), .int .i64 (Sp.qn (Sp.rmax (Sp.rmax (Sp.rmax ((Sp.sl n1 d1 n2 d2) / (Sp.sl n3 d3 n4 d4)) ((Sp.sl n1 d1 n2 d2) / (Sp.sh n3 d3 n4 d4))) ((Sp.sh n1 d1 n2 d2) / (Sp.sl n3 d3 n4 d4))) ((Sp.sh n1 d1 n2 d2) / (Sp.sh n3 d3 n4 d4)))), .int .i64 (Sp.qd (Sp.rmax (Sp.rmax (Sp.rmax ((Sp.sl n1 d1 n2 d2) / (Sp.sl n3 d3 n4 d4)) ((Sp.sl n1 d1 n2 d2) / (Sp.sh n3 d3 n4 d4))) ((Sp.sh n1 d1 n2 d2) / (Sp.sl n3 d3 n4 d4))) ((Sp.sh n1 d1 n2 d2) / (Sp.sh n3 d3 n4 d4))))], .int .i64 0] (show (.tuple #[.agg #[.int .i64 (Sp.qn (Sp.rmin (Sp.rmin (Sp.rmin ((Sp.sl n1 d1 n2 d2) / (Sp.sl n3 d3 n4 d4)) ((Sp.sl n1 d1 n2 d2) / (Sp.sh n3 d3 n4 d4))) ((Sp.sh n1 d1 n2 d2) / (Sp.sl n3 d3 n4 d4))) ((Sp.sh n1 d1 n2 d2) / (Sp.sh n3 d3 n4 d4)))), .int .i64 (Sp.qd (Sp.rmin (Sp.rmin (Sp.rmin ((Sp.sl n1 d1 n2 d2) / (Sp.sl n3 d3 n4 d4)) ((Sp.sl n1 d1 n2 d2) / (Sp.sh n3 d3 n4 d4))) ((Sp.sh n1 d1 n2 d2) / (Sp.sl n3 d3 n4 d4))) ((Sp.sh n1 d1 n2 d2) / (Sp.sh n3 d3 n4 d4)))), .int .i64 (Sp.qn (Sp.rmax (Sp.rmax (Sp.rmax ((Sp.sl n1 d1 n2 d2) / (Sp.sl n3 d3 n4 d4)) ((Sp.sl n1 d1 n2 d2) / (Sp.sh n3 d3 n4 d4))) ((Sp.sh n1 d1 n2 d2) / (Sp.sl n3 d3 n4 d4))) ((Sp.sh n1 d1 n2 d2) / (Sp.sh n3 d3 n4 d4)))), .int .i64 (Sp.qd (Sp.rmax (Sp.rmax (Sp.rmax ((Sp.sl n1 d1 n2 d2) / (Sp.sl n3 d3 n4 d4)) ((Sp.sl n1 d1 n2 d2) / (Sp.sh n3 d3 n4 d4))) ((Sp.sh n1 d1 n2 d2) / (Sp.sl n3 d3 n4 d4))) ((Sp.sh n1 d1 n2 d2) / (Sp.sh n3 d3 n4 d4))))], .int .i64 0] : Value) = (.tuple #[.agg #[.int .i64 (Sp.m4n ((Sp.sl n1 d1 n2 d2) / (Sp.sl n3 d3 n4 d4)) ((Sp.sl n1 d1 n2 d2) / (Sp.sh n3 d3 n4 d4)) ((Sp.sh n1 d1 n2 d2) / (Sp.sl n3 d3 n4 d4)) ((Sp.sh n1 d1 n2 d2) / (Sp.sh n3 d3 n4 d4))), .int .i64 (Sp.m4d ((Sp.sl n1 d1 n2 d2) / (Sp.sl n3 d3 n4 d4)) ((Sp.sl n1 d1 n2 d2) / (Sp.sh n3 d3 n4 d4)) ((Sp.sh n1 d1 n2 d2) / (Sp.sl n3 d3 n4 d4)) ((Sp.sh n1 d1 n2 d2) / (Sp.sh n3 d3 n4 d4))), .int .i64 (Sp.x4n ((Sp.sl n1 d1 n2 d2) / (Sp.sl n3 d3 n4 d4)) ((Sp.sl n1 d1 n2 d2) / (Sp.sh n3 d3 n4 d4)) ((Sp.sh n1 d1 n2 d2) / (Sp.sl n3 d3 n4 d4)) ((Sp.sh n1 d1 n2 d2) / (Sp.sh n3 d3 n4 d4))), .int .i64 (Sp.x4d ((Sp.sl n1 d1 n2 d2) / (Sp.sl n3 d3 n4 d4)) ((Sp.sl n1 d1 n2 d2) / (Sp.sh n3 d3 n4 d4)) ((Sp.sh n1 d1 n2 d2) / (Sp.sl n3 d3 n4 d4)) ((Sp.sh n1 d1 n2 d2) / (Sp.sh n3 d3 n4 d4)))], .int .i64 (Sp.e4 ((Sp.sl n1 d1 n2 d2) / (Sp.sl n3 d3 n4 d4)) ((Sp.sl n1 d1 n2 d2) / (Sp.sh n3 d3 n4 d4)) ((Sp.sh n1 d1 n2 d2) / (Sp.sl n3 d3 n4 d4)) ((Sp.sh n1 d1 n2 d2) / (Sp.sh n3 d3 n4 d4)))]) from (congrArg (fun z : List Value => Value.tuple z.toArray) (lcons (congrArg (fun z : List Value => Value.agg z.toArray) (lcons (congrArg (Value.int .i64) (show (Sp.qn (Sp.rmin (Sp.rmin (Sp.rmin ((Sp.sl n1 d1 n2 d2) / (Sp.sl n3 d3 n4 d4)) ((Sp.sl n1 d1 n2 d2) / (Sp.sh n3 d3 n4 d4))) ((Sp.sh n1 d1 n2 d2) / (Sp.sl n3 d3 n4 d4))) ((Sp.sh n1 d1 n2 d2) / (Sp.sh n3 d3 n4 d4)))) = (Sp.m4n ((Sp.sl n1 d1 n2 d2) / (Sp.sl n3 d3 n4 d4)) ((Sp.sl n1 d1 n2 d2) / (Sp.sh n3 d3 n4 d4)) ((Sp.sh n1 d1 n2 d2) / (Sp.sl n3 d3 n4 d4)) ((Sp.sh n1 d1 n2 d2) / (Sp.sh n3 d3 n4 d4))) from by exact (Sp.s4_yes (p := ((Sp.sl n1 d1 n2 d2) / (Sp.sl n3 d3 n4 d4))) (q := ((Sp.sl n1 d1 n2 d2) / (Sp.sh n3 d3 n4 d4))) (r := ((Sp.sh n1 d1 n2 d2) / (Sp.sl n3 d3 n4 d4))) (s := ((Sp.sh n1 d1 n2 d2) / (Sp.sh n3 d3 n4 d4))) (Sp.al4_yes (by assumption) (by assumption) (by assumption) (by assumption))).1)) (lcons (congrArg (Value.int .i64) (show (Sp.qd (Sp.rmin (Sp.rmin (Sp.rmin ((Sp.sl n1 d1 n2 d2) / (Sp.sl n3 d3 n4 d4)) ((Sp.sl n1 d1 n2 d2) / (Sp.sh n3 d3 n4 d4))) ((Sp.sh n1 d1 n2 d2) / (Sp.sl n3 d3 n4 d4))) ((Sp.sh n1 d1 n2 d2) / (Sp.sh n3 d3 n4 d4)))) = (Sp.m4d ((Sp.sl n1 d1 n2 d2) / (Sp.sl n3 d3 n4 d4)) ((Sp.sl n1 d1 n2 d2) / (Sp.sh n3 d3 n4 d4)) ((Sp.sh n1 d1 n2 d2) / (Sp.sl n3 d3 n4 d4)) ((Sp.sh n1 d1 n2 d2) / (Sp.sh n3 d3 n4 d4))) from by exact (Sp.s4_yes (p := ((Sp.sl n1 d1 n2 d2) / (Sp.sl n3 d3 n4 d4))) (q := ((Sp.sl n1 d1 n2 d2) / (Sp.sh n3 d3 n4 d4))) (r := ((Sp.sh n1 d1 n2 d2) / (Sp.sl n3 d3 n4 d4))) (s := ((Sp.sh n1 d1 n2 d2) / (Sp.sh n3 d3 n4 d4))) (Sp.al4_yes (by assumption) (by assumption) (by assumption) (by assumption))).2.1)) (lcons (congrArg (Value.int .i64) (show (Sp.qn (Sp.rmax (Sp.rmax (Sp.rmax ((Sp.sl n1 d1 n2 d2) / (Sp.sl n3 d3 n4 d4)) ((Sp.sl n1 d1 n2 d2) / (Sp.sh n3 d3 n4 d4))) ((Sp.sh n1 d1 n2 d2) / (Sp.sl n3 d3 n4 d4))) ((Sp.sh n1 d1 n2 d2) / (Sp.sh n3 d3 n4 d4)))) = (Sp.x4n ((Sp.sl n1 d1 n2 d2) / (Sp.sl n3 d3 n4 d4)) ((Sp.sl n1 d1 n2 d2) / (Sp.sh n3 d3 n4 d4)) ((Sp.sh n1 d1 n2 d2) / (Sp.sl n3 d3 n4 d4)) ((Sp.sh n1 d1 n2 d2) / (Sp.sh n3 d3 n4 d4))) from by exact (Sp.s4_yes (p := ((Sp.sl n1 d1 n2 d2) / (Sp.sl n3 d3 n4 d4))) (q := ((Sp.sl n1 d1 n2 d2) / (Sp.sh n3 d3 n4 d4))) (r := ((Sp.sh n1 d1 n2 d2) / (Sp.sl n3 d3 n4 d4))) (s := ((Sp.sh n1 d1 n2 d2) / (Sp.sh n3 d3 n4 d4))) (Sp.al4_yes (by assumption) (by assumption) (by assumption) (by assumption))).2.2.1)) (lcons (congrArg (Value.int .i64) (show (Sp.qd (Sp.rmax (Sp.rmax (Sp.rmax ((Sp.sl n1 d1 n2 d2) / (Sp.sl n3 d3 n4 d4)) ((Sp.sl n1 d1 n2 d2) / (Sp.sh n3 d3 n4 d4))) ((Sp.sh n1 d1 n2 d2) / (Sp.sl n3 d3 n4 d4))) ((Sp.sh n1 d1 n2 d2) / (Sp.sh n3 d3 n4 d4)))) = (Sp.x4d ((Sp.sl n1 d1 n2 d2) / (Sp.sl n3 d3 n4 d4)) ((Sp.sl n1 d1 n2 d2) / (Sp.sh n3 d3 n4 d4)) ((Sp.sh n1 d1 n2 d2) / (Sp.sl n3 d3 n4 d4)) ((Sp.sh n1 d1 n2 d2) / (Sp.sh n3 d3 n4 d4))) from by exact (Sp.s4_yes (p := ((Sp.sl n1 d1 n2 d2) / (Sp.sl n3 d3 n4 d4))) (q := ((Sp.sl n1 d1 n2 d2) / (Sp.sh n3 d3 n4 d4))) (r := ((Sp.sh n1 d1 n2 d2) / (Sp.sl n3 d3 n4 d4))) (s := ((Sp.sh n1 d1 n2 d2) / (Sp.sh n3 d3 n4 d4))) (Sp.al4_yes (by assumption) (by assumption) (by assumption) (by assumption))).2.2.2.1)) rfl))))) (lcons (congrArg (Value.int .i64) (show 0 = (Sp.e4 ((Sp.sl n1 d1 n2 d2) / (Sp.sl n3 d3 n4 d4)) ((Sp.sl n1 d1 n2 d2) / (Sp.sh n3 d3 n4 d4)) ((Sp.sh n1 d1 n2 d2) / (Sp.sl n3 d3 n4 d4)) ((Sp.sh n1 d1 n2 d2) / (Sp.sh n3 d3 n4 d4))) from by exact (Sp.s4_yes (p := ((Sp.sl n1 d1 n2 d2) / (Sp.sl n3 d3 n4 d4))) (q := ((Sp.sl n1 d1 n2 d2) / (Sp.sh n3 d3 n4 d4))) (r := ((Sp.sh n1 d1 n2 d2) / (Sp.sl n3 d3 n4 d4))) (s := ((Sp.sh n1 d1 n2 d2) / (Sp.sh n3 d3 n4 d4))) (Sp.al4_yes (by assumption) (by assumption) (by assumption) (by assumption))).2.2.2.2)) rfl))))
        · have h4p : ¬ (Sp.fitq ((Sp.sh n1 d1 n2 d2) / (Sp.sh n3 d3 n4 d4))) = true := by simpa using h4
          refine aw_p 127 (
            .a 1 25 <| .p (does_b false (h4)) <| .p (does_k [24] (around4F_ok ((Sp.sl n1 d1 n2 d2) / (Sp.sl n3 d3 n4 d4)) ((Sp.sl n1 d1 n2 d2) / (Sp.sh n3 d3 n4 d4)) ((Sp.sh n1 d1 n2 d2) / (Sp.sl n3 d3 n4 d4)) ((Sp.sh n1 d1 n2 d2) / (Sp.sh n3 d3 n4 d4)))) <| .a 4 25 <| .nil _ _) ?_
          refine aw_rt ?_
          exact en_ret [.agg #[.int .i64 0, .int .i64 0, .int .i64 0, .int .i64 0], .int .i64 2] (show (.tuple #[.agg #[.int .i64 0, .int .i64 0, .int .i64 0, .int .i64 0], .int .i64 2] : Value) = (.tuple #[.agg #[.int .i64 (Sp.m4n ((Sp.sl n1 d1 n2 d2) / (Sp.sl n3 d3 n4 d4)) ((Sp.sl n1 d1 n2 d2) / (Sp.sh n3 d3 n4 d4)) ((Sp.sh n1 d1 n2 d2) / (Sp.sl n3 d3 n4 d4)) ((Sp.sh n1 d1 n2 d2) / (Sp.sh n3 d3 n4 d4))), .int .i64 (Sp.m4d ((Sp.sl n1 d1 n2 d2) / (Sp.sl n3 d3 n4 d4)) ((Sp.sl n1 d1 n2 d2) / (Sp.sh n3 d3 n4 d4)) ((Sp.sh n1 d1 n2 d2) / (Sp.sl n3 d3 n4 d4)) ((Sp.sh n1 d1 n2 d2) / (Sp.sh n3 d3 n4 d4))), .int .i64 (Sp.x4n ((Sp.sl n1 d1 n2 d2) / (Sp.sl n3 d3 n4 d4)) ((Sp.sl n1 d1 n2 d2) / (Sp.sh n3 d3 n4 d4)) ((Sp.sh n1 d1 n2 d2) / (Sp.sl n3 d3 n4 d4)) ((Sp.sh n1 d1 n2 d2) / (Sp.sh n3 d3 n4 d4))), .int .i64 (Sp.x4d ((Sp.sl n1 d1 n2 d2) / (Sp.sl n3 d3 n4 d4)) ((Sp.sl n1 d1 n2 d2) / (Sp.sh n3 d3 n4 d4)) ((Sp.sh n1 d1 n2 d2) / (Sp.sl n3 d3 n4 d4)) ((Sp.sh n1 d1 n2 d2) / (Sp.sh n3 d3 n4 d4)))], .int .i64 (Sp.e4 ((Sp.sl n1 d1 n2 d2) / (Sp.sl n3 d3 n4 d4)) ((Sp.sl n1 d1 n2 d2) / (Sp.sh n3 d3 n4 d4)) ((Sp.sh n1 d1 n2 d2) / (Sp.sl n3 d3 n4 d4)) ((Sp.sh n1 d1 n2 d2) / (Sp.sh n3 d3 n4 d4)))]) from (congrArg (fun z : List Value => Value.tuple z.toArray) (lcons (congrArg (fun z : List Value => Value.agg z.toArray) (lcons (congrArg (Value.int .i64) (show 0 = (Sp.m4n ((Sp.sl n1 d1 n2 d2) / (Sp.sl n3 d3 n4 d4)) ((Sp.sl n1 d1 n2 d2) / (Sp.sh n3 d3 n4 d4)) ((Sp.sh n1 d1 n2 d2) / (Sp.sl n3 d3 n4 d4)) ((Sp.sh n1 d1 n2 d2) / (Sp.sh n3 d3 n4 d4))) from by (exact (Sp.s4_no (p := ((Sp.sl n1 d1 n2 d2) / (Sp.sl n3 d3 n4 d4))) (q := ((Sp.sl n1 d1 n2 d2) / (Sp.sh n3 d3 n4 d4))) (r := ((Sp.sh n1 d1 n2 d2) / (Sp.sl n3 d3 n4 d4))) (s := ((Sp.sh n1 d1 n2 d2) / (Sp.sh n3 d3 n4 d4))) (by simp [*])).1))) (lcons (congrArg (Value.int .i64) (show 0 = (Sp.m4d ((Sp.sl n1 d1 n2 d2) / (Sp.sl n3 d3 n4 d4)) ((Sp.sl n1 d1 n2 d2) / (Sp.sh n3 d3 n4 d4)) ((Sp.sh n1 d1 n2 d2) / (Sp.sl n3 d3 n4 d4)) ((Sp.sh n1 d1 n2 d2) / (Sp.sh n3 d3 n4 d4))) from by (exact (Sp.s4_no (p := ((Sp.sl n1 d1 n2 d2) / (Sp.sl n3 d3 n4 d4))) (q := ((Sp.sl n1 d1 n2 d2) / (Sp.sh n3 d3 n4 d4))) (r := ((Sp.sh n1 d1 n2 d2) / (Sp.sl n3 d3 n4 d4))) (s := ((Sp.sh n1 d1 n2 d2) / (Sp.sh n3 d3 n4 d4))) (by simp [*])).2.1))) (lcons (congrArg (Value.int .i64) (show 0 = (Sp.x4n ((Sp.sl n1 d1 n2 d2) / (Sp.sl n3 d3 n4 d4)) ((Sp.sl n1 d1 n2 d2) / (Sp.sh n3 d3 n4 d4)) ((Sp.sh n1 d1 n2 d2) / (Sp.sl n3 d3 n4 d4)) ((Sp.sh n1 d1 n2 d2) / (Sp.sh n3 d3 n4 d4))) from by (exact (Sp.s4_no (p := ((Sp.sl n1 d1 n2 d2) / (Sp.sl n3 d3 n4 d4))) (q := ((Sp.sl n1 d1 n2 d2) / (Sp.sh n3 d3 n4 d4))) (r := ((Sp.sh n1 d1 n2 d2) / (Sp.sl n3 d3 n4 d4))) (s := ((Sp.sh n1 d1 n2 d2) / (Sp.sh n3 d3 n4 d4))) (by simp [*])).2.2.1))) (lcons (congrArg (Value.int .i64) (show 0 = (Sp.x4d ((Sp.sl n1 d1 n2 d2) / (Sp.sl n3 d3 n4 d4)) ((Sp.sl n1 d1 n2 d2) / (Sp.sh n3 d3 n4 d4)) ((Sp.sh n1 d1 n2 d2) / (Sp.sl n3 d3 n4 d4)) ((Sp.sh n1 d1 n2 d2) / (Sp.sh n3 d3 n4 d4))) from by (exact (Sp.s4_no (p := ((Sp.sl n1 d1 n2 d2) / (Sp.sl n3 d3 n4 d4))) (q := ((Sp.sl n1 d1 n2 d2) / (Sp.sh n3 d3 n4 d4))) (r := ((Sp.sh n1 d1 n2 d2) / (Sp.sl n3 d3 n4 d4))) (s := ((Sp.sh n1 d1 n2 d2) / (Sp.sh n3 d3 n4 d4))) (by simp [*])).2.2.2.1))) rfl))))) (lcons (congrArg (Value.int .i64) (show 2 = (Sp.e4 ((Sp.sl n1 d1 n2 d2) / (Sp.sl n3 d3 n4 d4)) ((Sp.sl n1 d1 n2 d2) / (Sp.sh n3 d3 n4 d4)) ((Sp.sh n1 d1 n2 d2) / (Sp.sl n3 d3 n4 d4)) ((Sp.sh n1 d1 n2 d2) / (Sp.sh n3 d3 n4 d4))) from by (exact (Sp.s4_no (p := ((Sp.sl n1 d1 n2 d2) / (Sp.sl n3 d3 n4 d4))) (q := ((Sp.sl n1 d1 n2 d2) / (Sp.sh n3 d3 n4 d4))) (r := ((Sp.sh n1 d1 n2 d2) / (Sp.sl n3 d3 n4 d4))) (s := ((Sp.sh n1 d1 n2 d2) / (Sp.sh n3 d3 n4 d4))) (by simp [*])).2.2.2.2))) rfl))))
      · have h3p : ¬ (Sp.fitq ((Sp.sh n1 d1 n2 d2) / (Sp.sl n3 d3 n4 d4))) = true := by simpa using h3
        refine aw_p1 (
          .a 3 23 <| .p (does_ap 24) <| .p (does_b false (h3)) <| .a 6 25 <| .nil _ _) ?_
        refine block_normal ?_
        refine then_normal ?_
        refine aw_p1 (
          .a 2 25 <| .nil _ _) ?_
        refine then_normal ?_
        refine al_round ?_
        refine aw_p 257983 (
          .a 1 25 <| .nil _ _) ?_
        refine aw_sq 515966 515967 ?_
        refine aw_fl 1031933 ?_
        refine aw_ex 2 ?_
        refine then_exit ?_
        refine then_exit ?_
        refine block_exit ?_
        refine block_normal ?_
        refine then_normal ?_
        refine aw_p1 (
          .a 2 25 <| .nil _ _) ?_
        refine then_normal ?_
        refine al_round ?_
        refine aw_p 1007 (
          .a 1 25 <| .nil _ _) ?_
        refine aw_sq 2014 2015 ?_
        refine aw_fl 4029 ?_
        refine aw_ex 0 ?_
        refine then_exit ?_
        refine then_exit ?_
        refine block_exit ?_
        refine then_normal ?_
        refine aw_p 127 (
          .a 2 25 <| .p (does_k [24] (around4F_ok ((Sp.sl n1 d1 n2 d2) / (Sp.sl n3 d3 n4 d4)) ((Sp.sl n1 d1 n2 d2) / (Sp.sh n3 d3 n4 d4)) ((Sp.sh n1 d1 n2 d2) / (Sp.sl n3 d3 n4 d4)) ((Sp.sh n1 d1 n2 d2) / (Sp.sh n3 d3 n4 d4)))) <| .a 4 25 <| .nil _ _) ?_
        refine aw_rt ?_
        exact en_ret [.agg #[.int .i64 0, .int .i64 0, .int .i64 0, .int .i64 0], .int .i64 2] (show (.tuple #[.agg #[.int .i64 0, .int .i64 0, .int .i64 0, .int .i64 0], .int .i64 2] : Value) = (.tuple #[.agg #[.int .i64 (Sp.m4n ((Sp.sl n1 d1 n2 d2) / (Sp.sl n3 d3 n4 d4)) ((Sp.sl n1 d1 n2 d2) / (Sp.sh n3 d3 n4 d4)) ((Sp.sh n1 d1 n2 d2) / (Sp.sl n3 d3 n4 d4)) ((Sp.sh n1 d1 n2 d2) / (Sp.sh n3 d3 n4 d4))), .int .i64 (Sp.m4d ((Sp.sl n1 d1 n2 d2) / (Sp.sl n3 d3 n4 d4)) ((Sp.sl n1 d1 n2 d2) / (Sp.sh n3 d3 n4 d4)) ((Sp.sh n1 d1 n2 d2) / (Sp.sl n3 d3 n4 d4)) ((Sp.sh n1 d1 n2 d2) / (Sp.sh n3 d3 n4 d4))), .int .i64 (Sp.x4n ((Sp.sl n1 d1 n2 d2) / (Sp.sl n3 d3 n4 d4)) ((Sp.sl n1 d1 n2 d2) / (Sp.sh n3 d3 n4 d4)) ((Sp.sh n1 d1 n2 d2) / (Sp.sl n3 d3 n4 d4)) ((Sp.sh n1 d1 n2 d2) / (Sp.sh n3 d3 n4 d4))), .int .i64 (Sp.x4d ((Sp.sl n1 d1 n2 d2) / (Sp.sl n3 d3 n4 d4)) ((Sp.sl n1 d1 n2 d2) / (Sp.sh n3 d3 n4 d4)) ((Sp.sh n1 d1 n2 d2) / (Sp.sl n3 d3 n4 d4)) ((Sp.sh n1 d1 n2 d2) / (Sp.sh n3 d3 n4 d4)))], .int .i64 (Sp.e4 ((Sp.sl n1 d1 n2 d2) / (Sp.sl n3 d3 n4 d4)) ((Sp.sl n1 d1 n2 d2) / (Sp.sh n3 d3 n4 d4)) ((Sp.sh n1 d1 n2 d2) / (Sp.sl n3 d3 n4 d4)) ((Sp.sh n1 d1 n2 d2) / (Sp.sh n3 d3 n4 d4)))]) from (congrArg (fun z : List Value => Value.tuple z.toArray) (lcons (congrArg (fun z : List Value => Value.agg z.toArray) (lcons (congrArg (Value.int .i64) (show 0 = (Sp.m4n ((Sp.sl n1 d1 n2 d2) / (Sp.sl n3 d3 n4 d4)) ((Sp.sl n1 d1 n2 d2) / (Sp.sh n3 d3 n4 d4)) ((Sp.sh n1 d1 n2 d2) / (Sp.sl n3 d3 n4 d4)) ((Sp.sh n1 d1 n2 d2) / (Sp.sh n3 d3 n4 d4))) from by (exact (Sp.s4_no (p := ((Sp.sl n1 d1 n2 d2) / (Sp.sl n3 d3 n4 d4))) (q := ((Sp.sl n1 d1 n2 d2) / (Sp.sh n3 d3 n4 d4))) (r := ((Sp.sh n1 d1 n2 d2) / (Sp.sl n3 d3 n4 d4))) (s := ((Sp.sh n1 d1 n2 d2) / (Sp.sh n3 d3 n4 d4))) (by simp [*])).1))) (lcons (congrArg (Value.int .i64) (show 0 = (Sp.m4d ((Sp.sl n1 d1 n2 d2) / (Sp.sl n3 d3 n4 d4)) ((Sp.sl n1 d1 n2 d2) / (Sp.sh n3 d3 n4 d4)) ((Sp.sh n1 d1 n2 d2) / (Sp.sl n3 d3 n4 d4)) ((Sp.sh n1 d1 n2 d2) / (Sp.sh n3 d3 n4 d4))) from by (exact (Sp.s4_no (p := ((Sp.sl n1 d1 n2 d2) / (Sp.sl n3 d3 n4 d4))) (q := ((Sp.sl n1 d1 n2 d2) / (Sp.sh n3 d3 n4 d4))) (r := ((Sp.sh n1 d1 n2 d2) / (Sp.sl n3 d3 n4 d4))) (s := ((Sp.sh n1 d1 n2 d2) / (Sp.sh n3 d3 n4 d4))) (by simp [*])).2.1))) (lcons (congrArg (Value.int .i64) (show 0 = (Sp.x4n ((Sp.sl n1 d1 n2 d2) / (Sp.sl n3 d3 n4 d4)) ((Sp.sl n1 d1 n2 d2) / (Sp.sh n3 d3 n4 d4)) ((Sp.sh n1 d1 n2 d2) / (Sp.sl n3 d3 n4 d4)) ((Sp.sh n1 d1 n2 d2) / (Sp.sh n3 d3 n4 d4))) from by (exact (Sp.s4_no (p := ((Sp.sl n1 d1 n2 d2) / (Sp.sl n3 d3 n4 d4))) (q := ((Sp.sl n1 d1 n2 d2) / (Sp.sh n3 d3 n4 d4))) (r := ((Sp.sh n1 d1 n2 d2) / (Sp.sl n3 d3 n4 d4))) (s := ((Sp.sh n1 d1 n2 d2) / (Sp.sh n3 d3 n4 d4))) (by simp [*])).2.2.1))) (lcons (congrArg (Value.int .i64) (show 0 = (Sp.x4d ((Sp.sl n1 d1 n2 d2) / (Sp.sl n3 d3 n4 d4)) ((Sp.sl n1 d1 n2 d2) / (Sp.sh n3 d3 n4 d4)) ((Sp.sh n1 d1 n2 d2) / (Sp.sl n3 d3 n4 d4)) ((Sp.sh n1 d1 n2 d2) / (Sp.sh n3 d3 n4 d4))) from by (exact (Sp.s4_no (p := ((Sp.sl n1 d1 n2 d2) / (Sp.sl n3 d3 n4 d4))) (q := ((Sp.sl n1 d1 n2 d2) / (Sp.sh n3 d3 n4 d4))) (r := ((Sp.sh n1 d1 n2 d2) / (Sp.sl n3 d3 n4 d4))) (s := ((Sp.sh n1 d1 n2 d2) / (Sp.sh n3 d3 n4 d4))) (by simp [*])).2.2.2.1))) rfl))))) (lcons (congrArg (Value.int .i64) (show 2 = (Sp.e4 ((Sp.sl n1 d1 n2 d2) / (Sp.sl n3 d3 n4 d4)) ((Sp.sl n1 d1 n2 d2) / (Sp.sh n3 d3 n4 d4)) ((Sp.sh n1 d1 n2 d2) / (Sp.sl n3 d3 n4 d4)) ((Sp.sh n1 d1 n2 d2) / (Sp.sh n3 d3 n4 d4))) from by (exact (Sp.s4_no (p := ((Sp.sl n1 d1 n2 d2) / (Sp.sl n3 d3 n4 d4))) (q := ((Sp.sl n1 d1 n2 d2) / (Sp.sh n3 d3 n4 d4))) (r := ((Sp.sh n1 d1 n2 d2) / (Sp.sl n3 d3 n4 d4))) (s := ((Sp.sh n1 d1 n2 d2) / (Sp.sh n3 d3 n4 d4))) (by simp [*])).2.2.2.2))) rfl))))
    · have h2p : ¬ (Sp.fitq ((Sp.sl n1 d1 n2 d2) / (Sp.sh n3 d3 n4 d4))) = true := by simpa using h2
      refine aw_p1 (
        .a 3 19 <| .p (does_ap 20) <| .p (does_b false (h2)) <| .a 6 21 <| .nil _ _) ?_
      refine block_normal ?_
      refine then_normal ?_
      refine aw_p1 (
        .a 2 21 <| .nil _ _) ?_
      refine then_normal ?_
      refine al_round ?_
      refine aw_p 257983 (
        .a 1 21 <| .nil _ _) ?_
      refine aw_sq 515966 515967 ?_
      refine aw_tr 1031932 ?_
      refine aw_sk ?_
      refine then_normal ?_
      refine aw_sq 1031934 1031935 ?_
      refine aw_bl 3 2063869 ?_
      refine aw_p 4127739 (
        .a 4 21 <| .nil _ _) ?_
      refine aw_p 8255479 (
        .a 3 22 <|
        .p (does_c ((by have h := fdiv_ok (Sp.qn (Sp.sh n1 d1 n2 d2)) (Sp.qd (Sp.sh n1 d1 n2 d2)) (by have := Sp.qn_bd (Sp.sh n1 d1 n2 d2); omega) (by have := Sp.qn_bd (Sp.sh n1 d1 n2 d2); omega) (by have := Sp.qd_bd (Sp.sh n1 d1 n2 d2); omega) (by have := Sp.qd_bd (Sp.sh n1 d1 n2 d2); omega) (Sp.qn (Sp.sh n3 d3 n4 d4)) (Sp.qd (Sp.sh n3 d3 n4 d4)) (by have := Sp.qn_bd (Sp.sh n3 d3 n4 d4); omega) (by have := Sp.qn_bd (Sp.sh n3 d3 n4 d4); omega) (by have := Sp.qd_bd (Sp.sh n3 d3 n4 d4); omega) (by have := Sp.qd_bd (Sp.sh n3 d3 n4 d4); omega); rw [(Sp.rv_fit (q := (Sp.sh n1 d1 n2 d2)) (Sp.fit_sh (by omega) (by omega) (by omega))), (Sp.rv_fit (q := (Sp.sh n3 d3 n4 d4)) (Sp.fit_sh (by omega) (by omega) (by omega))), (Sp.dv_yes (a := (Sp.sh n1 d1 n2 d2)) nz2).1, (Sp.dv_yes (a := (Sp.sh n1 d1 n2 d2)) nz2).2.1, (Sp.dv_yes (a := (Sp.sh n1 d1 n2 d2)) nz2).2.2] at h; exact h))) <|
        .a 6 22 <| .nil _ _) ?_
      refine aw_p1 (
        .a 3 23 <| .p (does_ap 24) <| .a 7 25 <| .nil _ _) ?_
      refine block_normal ?_
      refine then_normal ?_
      refine aw_p1 (
        .a 2 25 <| .nil _ _) ?_
      refine then_normal ?_
      refine al_round ?_
      refine aw_p 257983 (
        .a 1 25 <| .nil _ _) ?_
      refine aw_sq 515966 515967 ?_
      refine aw_fl 1031933 ?_
      refine aw_ex 2 ?_
      refine then_exit ?_
      refine then_exit ?_
      refine block_exit ?_
      refine block_normal ?_
      refine then_normal ?_
      refine aw_p1 (
        .a 2 25 <| .nil _ _) ?_
      refine then_normal ?_
      refine al_round ?_
      refine aw_p 1007 (
        .a 1 25 <| .nil _ _) ?_
      refine aw_sq 2014 2015 ?_
      refine aw_fl 4029 ?_
      refine aw_ex 0 ?_
      refine then_exit ?_
      refine then_exit ?_
      refine block_exit ?_
      refine then_normal ?_
      refine aw_p 127 (
        .a 2 25 <| .p (does_k [24] (around4F_ok ((Sp.sl n1 d1 n2 d2) / (Sp.sl n3 d3 n4 d4)) ((Sp.sl n1 d1 n2 d2) / (Sp.sh n3 d3 n4 d4)) ((Sp.sh n1 d1 n2 d2) / (Sp.sl n3 d3 n4 d4)) ((Sp.sh n1 d1 n2 d2) / (Sp.sh n3 d3 n4 d4)))) <| .a 4 25 <| .nil _ _) ?_
      refine aw_rt ?_
      exact en_ret [.agg #[.int .i64 0, .int .i64 0, .int .i64 0, .int .i64 0], .int .i64 2] (show (.tuple #[.agg #[.int .i64 0, .int .i64 0, .int .i64 0, .int .i64 0], .int .i64 2] : Value) = (.tuple #[.agg #[.int .i64 (Sp.m4n ((Sp.sl n1 d1 n2 d2) / (Sp.sl n3 d3 n4 d4)) ((Sp.sl n1 d1 n2 d2) / (Sp.sh n3 d3 n4 d4)) ((Sp.sh n1 d1 n2 d2) / (Sp.sl n3 d3 n4 d4)) ((Sp.sh n1 d1 n2 d2) / (Sp.sh n3 d3 n4 d4))), .int .i64 (Sp.m4d ((Sp.sl n1 d1 n2 d2) / (Sp.sl n3 d3 n4 d4)) ((Sp.sl n1 d1 n2 d2) / (Sp.sh n3 d3 n4 d4)) ((Sp.sh n1 d1 n2 d2) / (Sp.sl n3 d3 n4 d4)) ((Sp.sh n1 d1 n2 d2) / (Sp.sh n3 d3 n4 d4))), .int .i64 (Sp.x4n ((Sp.sl n1 d1 n2 d2) / (Sp.sl n3 d3 n4 d4)) ((Sp.sl n1 d1 n2 d2) / (Sp.sh n3 d3 n4 d4)) ((Sp.sh n1 d1 n2 d2) / (Sp.sl n3 d3 n4 d4)) ((Sp.sh n1 d1 n2 d2) / (Sp.sh n3 d3 n4 d4))), .int .i64 (Sp.x4d ((Sp.sl n1 d1 n2 d2) / (Sp.sl n3 d3 n4 d4)) ((Sp.sl n1 d1 n2 d2) / (Sp.sh n3 d3 n4 d4)) ((Sp.sh n1 d1 n2 d2) / (Sp.sl n3 d3 n4 d4)) ((Sp.sh n1 d1 n2 d2) / (Sp.sh n3 d3 n4 d4)))], .int .i64 (Sp.e4 ((Sp.sl n1 d1 n2 d2) / (Sp.sl n3 d3 n4 d4)) ((Sp.sl n1 d1 n2 d2) / (Sp.sh n3 d3 n4 d4)) ((Sp.sh n1 d1 n2 d2) / (Sp.sl n3 d3 n4 d4)) ((Sp.sh n1 d1 n2 d2) / (Sp.sh n3 d3 n4 d4)))]) from (congrArg (fun z : List Value => Value.tuple z.toArray) (lcons (congrArg (fun z : List Value => Value.agg z.toArray) (lcons (congrArg (Value.int .i64) (show 0 = (Sp.m4n ((Sp.sl n1 d1 n2 d2) / (Sp.sl n3 d3 n4 d4)) ((Sp.sl n1 d1 n2 d2) / (Sp.sh n3 d3 n4 d4)) ((Sp.sh n1 d1 n2 d2) / (Sp.sl n3 d3 n4 d4)) ((Sp.sh n1 d1 n2 d2) / (Sp.sh n3 d3 n4 d4))) from by (exact (Sp.s4_no (p := ((Sp.sl n1 d1 n2 d2) / (Sp.sl n3 d3 n4 d4))) (q := ((Sp.sl n1 d1 n2 d2) / (Sp.sh n3 d3 n4 d4))) (r := ((Sp.sh n1 d1 n2 d2) / (Sp.sl n3 d3 n4 d4))) (s := ((Sp.sh n1 d1 n2 d2) / (Sp.sh n3 d3 n4 d4))) (by simp [*])).1))) (lcons (congrArg (Value.int .i64) (show 0 = (Sp.m4d ((Sp.sl n1 d1 n2 d2) / (Sp.sl n3 d3 n4 d4)) ((Sp.sl n1 d1 n2 d2) / (Sp.sh n3 d3 n4 d4)) ((Sp.sh n1 d1 n2 d2) / (Sp.sl n3 d3 n4 d4)) ((Sp.sh n1 d1 n2 d2) / (Sp.sh n3 d3 n4 d4))) from by (exact (Sp.s4_no (p := ((Sp.sl n1 d1 n2 d2) / (Sp.sl n3 d3 n4 d4))) (q := ((Sp.sl n1 d1 n2 d2) / (Sp.sh n3 d3 n4 d4))) (r := ((Sp.sh n1 d1 n2 d2) / (Sp.sl n3 d3 n4 d4))) (s := ((Sp.sh n1 d1 n2 d2) / (Sp.sh n3 d3 n4 d4))) (by simp [*])).2.1))) (lcons (congrArg (Value.int .i64) (show 0 = (Sp.x4n ((Sp.sl n1 d1 n2 d2) / (Sp.sl n3 d3 n4 d4)) ((Sp.sl n1 d1 n2 d2) / (Sp.sh n3 d3 n4 d4)) ((Sp.sh n1 d1 n2 d2) / (Sp.sl n3 d3 n4 d4)) ((Sp.sh n1 d1 n2 d2) / (Sp.sh n3 d3 n4 d4))) from by (exact (Sp.s4_no (p := ((Sp.sl n1 d1 n2 d2) / (Sp.sl n3 d3 n4 d4))) (q := ((Sp.sl n1 d1 n2 d2) / (Sp.sh n3 d3 n4 d4))) (r := ((Sp.sh n1 d1 n2 d2) / (Sp.sl n3 d3 n4 d4))) (s := ((Sp.sh n1 d1 n2 d2) / (Sp.sh n3 d3 n4 d4))) (by simp [*])).2.2.1))) (lcons (congrArg (Value.int .i64) (show 0 = (Sp.x4d ((Sp.sl n1 d1 n2 d2) / (Sp.sl n3 d3 n4 d4)) ((Sp.sl n1 d1 n2 d2) / (Sp.sh n3 d3 n4 d4)) ((Sp.sh n1 d1 n2 d2) / (Sp.sl n3 d3 n4 d4)) ((Sp.sh n1 d1 n2 d2) / (Sp.sh n3 d3 n4 d4))) from by (exact (Sp.s4_no (p := ((Sp.sl n1 d1 n2 d2) / (Sp.sl n3 d3 n4 d4))) (q := ((Sp.sl n1 d1 n2 d2) / (Sp.sh n3 d3 n4 d4))) (r := ((Sp.sh n1 d1 n2 d2) / (Sp.sl n3 d3 n4 d4))) (s := ((Sp.sh n1 d1 n2 d2) / (Sp.sh n3 d3 n4 d4))) (by simp [*])).2.2.2.1))) rfl))))) (lcons (congrArg (Value.int .i64) (show 2 = (Sp.e4 ((Sp.sl n1 d1 n2 d2) / (Sp.sl n3 d3 n4 d4)) ((Sp.sl n1 d1 n2 d2) / (Sp.sh n3 d3 n4 d4)) ((Sp.sh n1 d1 n2 d2) / (Sp.sl n3 d3 n4 d4)) ((Sp.sh n1 d1 n2 d2) / (Sp.sh n3 d3 n4 d4))) from by (exact (Sp.s4_no (p := ((Sp.sl n1 d1 n2 d2) / (Sp.sl n3 d3 n4 d4))) (q := ((Sp.sl n1 d1 n2 d2) / (Sp.sh n3 d3 n4 d4))) (r := ((Sp.sh n1 d1 n2 d2) / (Sp.sl n3 d3 n4 d4))) (s := ((Sp.sh n1 d1 n2 d2) / (Sp.sh n3 d3 n4 d4))) (by simp [*])).2.2.2.2))) rfl))))
  · have h1p : ¬ (Sp.fitq ((Sp.sl n1 d1 n2 d2) / (Sp.sl n3 d3 n4 d4))) = true := by simpa using h1
    refine aw_p1 (
      .a 3 13 <| .p (does_ap 14) <| .p (does_b false (h1)) <| .a 6 15 <| .nil _ _) ?_
    refine block_normal ?_
    refine then_normal ?_
    refine aw_p1 (
      .a 2 15 <| .nil _ _) ?_
    refine then_normal ?_
    refine al_round ?_
    refine aw_p 257983 (
      .a 1 15 <| .nil _ _) ?_
    refine aw_sq 515966 515967 ?_
    refine aw_fl 1031933 ?_
    refine aw_ex 2 ?_
    refine then_exit ?_
    refine then_exit ?_
    refine block_exit ?_
    refine block_normal ?_
    refine then_normal ?_
    refine aw_p1 (
      .a 2 15 <| .nil _ _) ?_
    refine then_normal ?_
    refine al_round ?_
    refine aw_p 1007 (
      .a 1 15 <| .nil _ _) ?_
    refine aw_sq 2014 2015 ?_
    refine aw_tr 4028 ?_
    refine aw_sk ?_
    refine then_normal ?_
    refine aw_sq 4030 4031 ?_
    refine aw_bl 1 8061 ?_
    refine aw_p 16123 (
      .a 4 15 <| .nil _ _) ?_
    refine aw_p 32247 (
      .a 7 16 <| .nil _ _) ?_
    refine aw_bl 2 64495 ?_
    refine aw_lp 128991 ?_
    refine al_round ?_
    refine aw_p 257983 (
      .a 1 17 <| .nil _ _) ?_
    refine aw_sq 515966 515967 ?_
    refine aw_tr 1031932 ?_
    refine aw_sk ?_
    refine then_normal ?_
    refine aw_sq 1031934 1031935 ?_
    refine aw_bl 3 2063869 ?_
    refine aw_p 4127739 (
      .a 4 17 <| .nil _ _) ?_
    refine aw_p 8255479 (
      .a 3 18 <|
      .p (does_c ((by have h := fdiv_ok (Sp.qn (Sp.sh n1 d1 n2 d2)) (Sp.qd (Sp.sh n1 d1 n2 d2)) (by have := Sp.qn_bd (Sp.sh n1 d1 n2 d2); omega) (by have := Sp.qn_bd (Sp.sh n1 d1 n2 d2); omega) (by have := Sp.qd_bd (Sp.sh n1 d1 n2 d2); omega) (by have := Sp.qd_bd (Sp.sh n1 d1 n2 d2); omega) (Sp.qn (Sp.sl n3 d3 n4 d4)) (Sp.qd (Sp.sl n3 d3 n4 d4)) (by have := Sp.qn_bd (Sp.sl n3 d3 n4 d4); omega) (by have := Sp.qn_bd (Sp.sl n3 d3 n4 d4); omega) (by have := Sp.qd_bd (Sp.sl n3 d3 n4 d4); omega) (by have := Sp.qd_bd (Sp.sl n3 d3 n4 d4); omega); rw [(Sp.rv_fit (q := (Sp.sh n1 d1 n2 d2)) (Sp.fit_sh (by omega) (by omega) (by omega))), (Sp.rv_fit (q := (Sp.sl n3 d3 n4 d4)) (Sp.fit_sl (by omega) (by omega) (by omega))), (Sp.dv_yes (a := (Sp.sh n1 d1 n2 d2)) nz1).1, (Sp.dv_yes (a := (Sp.sh n1 d1 n2 d2)) nz1).2.1, (Sp.dv_yes (a := (Sp.sh n1 d1 n2 d2)) nz1).2.2] at h; exact h))) <|
      .a 6 18 <| .nil _ _) ?_
    refine aw_p1 (
      .a 3 19 <| .p (does_ap 20) <| .a 7 21 <| .nil _ _) ?_
    refine block_normal ?_
    refine then_normal ?_
    refine aw_p1 (
      .a 2 21 <| .nil _ _) ?_
    refine then_normal ?_
    refine al_round ?_
    refine aw_p 257983 (
      .a 1 21 <| .nil _ _) ?_
    refine aw_sq 515966 515967 ?_
    refine aw_tr 1031932 ?_
    refine aw_sk ?_
    refine then_normal ?_
    refine aw_sq 1031934 1031935 ?_
    refine aw_bl 3 2063869 ?_
    refine aw_p 4127739 (
      .a 4 21 <| .nil _ _) ?_
    refine aw_p 8255479 (
      .a 3 22 <|
      .p (does_c ((by have h := fdiv_ok (Sp.qn (Sp.sh n1 d1 n2 d2)) (Sp.qd (Sp.sh n1 d1 n2 d2)) (by have := Sp.qn_bd (Sp.sh n1 d1 n2 d2); omega) (by have := Sp.qn_bd (Sp.sh n1 d1 n2 d2); omega) (by have := Sp.qd_bd (Sp.sh n1 d1 n2 d2); omega) (by have := Sp.qd_bd (Sp.sh n1 d1 n2 d2); omega) (Sp.qn (Sp.sh n3 d3 n4 d4)) (Sp.qd (Sp.sh n3 d3 n4 d4)) (by have := Sp.qn_bd (Sp.sh n3 d3 n4 d4); omega) (by have := Sp.qn_bd (Sp.sh n3 d3 n4 d4); omega) (by have := Sp.qd_bd (Sp.sh n3 d3 n4 d4); omega) (by have := Sp.qd_bd (Sp.sh n3 d3 n4 d4); omega); rw [(Sp.rv_fit (q := (Sp.sh n1 d1 n2 d2)) (Sp.fit_sh (by omega) (by omega) (by omega))), (Sp.rv_fit (q := (Sp.sh n3 d3 n4 d4)) (Sp.fit_sh (by omega) (by omega) (by omega))), (Sp.dv_yes (a := (Sp.sh n1 d1 n2 d2)) nz2).1, (Sp.dv_yes (a := (Sp.sh n1 d1 n2 d2)) nz2).2.1, (Sp.dv_yes (a := (Sp.sh n1 d1 n2 d2)) nz2).2.2] at h; exact h))) <|
      .a 6 22 <| .nil _ _) ?_
    refine aw_p1 (
      .a 3 23 <| .p (does_ap 24) <| .a 7 25 <| .nil _ _) ?_
    refine block_normal ?_
    refine then_normal ?_
    refine aw_p1 (
      .a 2 25 <| .nil _ _) ?_
    refine then_normal ?_
    refine al_round ?_
    refine aw_p 257983 (
      .a 1 25 <| .nil _ _) ?_
    refine aw_sq 515966 515967 ?_
    refine aw_fl 1031933 ?_
    refine aw_ex 2 ?_
    refine then_exit ?_
    refine then_exit ?_
    refine block_exit ?_
    refine block_normal ?_
    refine then_normal ?_
    refine aw_p1 (
      .a 2 25 <| .nil _ _) ?_
    refine then_normal ?_
    refine al_round ?_
    refine aw_p 1007 (
      .a 1 25 <| .nil _ _) ?_
    refine aw_sq 2014 2015 ?_
    refine aw_fl 4029 ?_
    refine aw_ex 0 ?_
    refine then_exit ?_
    refine then_exit ?_
    refine block_exit ?_
    refine then_normal ?_
    refine aw_p 127 (
      .a 2 25 <| .p (does_k [24] (around4F_ok ((Sp.sl n1 d1 n2 d2) / (Sp.sl n3 d3 n4 d4)) ((Sp.sl n1 d1 n2 d2) / (Sp.sh n3 d3 n4 d4)) ((Sp.sh n1 d1 n2 d2) / (Sp.sl n3 d3 n4 d4)) ((Sp.sh n1 d1 n2 d2) / (Sp.sh n3 d3 n4 d4)))) <| .a 4 25 <| .nil _ _) ?_
    refine aw_rt ?_
    exact en_ret [.agg #[.int .i64 0, .int .i64 0, .int .i64 0, .int .i64 0], .int .i64 2] (show (.tuple #[.agg #[.int .i64 0, .int .i64 0, .int .i64 0, .int .i64 0], .int .i64 2] : Value) = (.tuple #[.agg #[.int .i64 (Sp.m4n ((Sp.sl n1 d1 n2 d2) / (Sp.sl n3 d3 n4 d4)) ((Sp.sl n1 d1 n2 d2) / (Sp.sh n3 d3 n4 d4)) ((Sp.sh n1 d1 n2 d2) / (Sp.sl n3 d3 n4 d4)) ((Sp.sh n1 d1 n2 d2) / (Sp.sh n3 d3 n4 d4))), .int .i64 (Sp.m4d ((Sp.sl n1 d1 n2 d2) / (Sp.sl n3 d3 n4 d4)) ((Sp.sl n1 d1 n2 d2) / (Sp.sh n3 d3 n4 d4)) ((Sp.sh n1 d1 n2 d2) / (Sp.sl n3 d3 n4 d4)) ((Sp.sh n1 d1 n2 d2) / (Sp.sh n3 d3 n4 d4))), .int .i64 (Sp.x4n ((Sp.sl n1 d1 n2 d2) / (Sp.sl n3 d3 n4 d4)) ((Sp.sl n1 d1 n2 d2) / (Sp.sh n3 d3 n4 d4)) ((Sp.sh n1 d1 n2 d2) / (Sp.sl n3 d3 n4 d4)) ((Sp.sh n1 d1 n2 d2) / (Sp.sh n3 d3 n4 d4))), .int .i64 (Sp.x4d ((Sp.sl n1 d1 n2 d2) / (Sp.sl n3 d3 n4 d4)) ((Sp.sl n1 d1 n2 d2) / (Sp.sh n3 d3 n4 d4)) ((Sp.sh n1 d1 n2 d2) / (Sp.sl n3 d3 n4 d4)) ((Sp.sh n1 d1 n2 d2) / (Sp.sh n3 d3 n4 d4)))], .int .i64 (Sp.e4 ((Sp.sl n1 d1 n2 d2) / (Sp.sl n3 d3 n4 d4)) ((Sp.sl n1 d1 n2 d2) / (Sp.sh n3 d3 n4 d4)) ((Sp.sh n1 d1 n2 d2) / (Sp.sl n3 d3 n4 d4)) ((Sp.sh n1 d1 n2 d2) / (Sp.sh n3 d3 n4 d4)))]) from (congrArg (fun z : List Value => Value.tuple z.toArray) (lcons (congrArg (fun z : List Value => Value.agg z.toArray) (lcons (congrArg (Value.int .i64) (show 0 = (Sp.m4n ((Sp.sl n1 d1 n2 d2) / (Sp.sl n3 d3 n4 d4)) ((Sp.sl n1 d1 n2 d2) / (Sp.sh n3 d3 n4 d4)) ((Sp.sh n1 d1 n2 d2) / (Sp.sl n3 d3 n4 d4)) ((Sp.sh n1 d1 n2 d2) / (Sp.sh n3 d3 n4 d4))) from by (exact (Sp.s4_no (p := ((Sp.sl n1 d1 n2 d2) / (Sp.sl n3 d3 n4 d4))) (q := ((Sp.sl n1 d1 n2 d2) / (Sp.sh n3 d3 n4 d4))) (r := ((Sp.sh n1 d1 n2 d2) / (Sp.sl n3 d3 n4 d4))) (s := ((Sp.sh n1 d1 n2 d2) / (Sp.sh n3 d3 n4 d4))) (by simp [*])).1))) (lcons (congrArg (Value.int .i64) (show 0 = (Sp.m4d ((Sp.sl n1 d1 n2 d2) / (Sp.sl n3 d3 n4 d4)) ((Sp.sl n1 d1 n2 d2) / (Sp.sh n3 d3 n4 d4)) ((Sp.sh n1 d1 n2 d2) / (Sp.sl n3 d3 n4 d4)) ((Sp.sh n1 d1 n2 d2) / (Sp.sh n3 d3 n4 d4))) from by (exact (Sp.s4_no (p := ((Sp.sl n1 d1 n2 d2) / (Sp.sl n3 d3 n4 d4))) (q := ((Sp.sl n1 d1 n2 d2) / (Sp.sh n3 d3 n4 d4))) (r := ((Sp.sh n1 d1 n2 d2) / (Sp.sl n3 d3 n4 d4))) (s := ((Sp.sh n1 d1 n2 d2) / (Sp.sh n3 d3 n4 d4))) (by simp [*])).2.1))) (lcons (congrArg (Value.int .i64) (show 0 = (Sp.x4n ((Sp.sl n1 d1 n2 d2) / (Sp.sl n3 d3 n4 d4)) ((Sp.sl n1 d1 n2 d2) / (Sp.sh n3 d3 n4 d4)) ((Sp.sh n1 d1 n2 d2) / (Sp.sl n3 d3 n4 d4)) ((Sp.sh n1 d1 n2 d2) / (Sp.sh n3 d3 n4 d4))) from by (exact (Sp.s4_no (p := ((Sp.sl n1 d1 n2 d2) / (Sp.sl n3 d3 n4 d4))) (q := ((Sp.sl n1 d1 n2 d2) / (Sp.sh n3 d3 n4 d4))) (r := ((Sp.sh n1 d1 n2 d2) / (Sp.sl n3 d3 n4 d4))) (s := ((Sp.sh n1 d1 n2 d2) / (Sp.sh n3 d3 n4 d4))) (by simp [*])).2.2.1))) (lcons (congrArg (Value.int .i64) (show 0 = (Sp.x4d ((Sp.sl n1 d1 n2 d2) / (Sp.sl n3 d3 n4 d4)) ((Sp.sl n1 d1 n2 d2) / (Sp.sh n3 d3 n4 d4)) ((Sp.sh n1 d1 n2 d2) / (Sp.sl n3 d3 n4 d4)) ((Sp.sh n1 d1 n2 d2) / (Sp.sh n3 d3 n4 d4))) from by (exact (Sp.s4_no (p := ((Sp.sl n1 d1 n2 d2) / (Sp.sl n3 d3 n4 d4))) (q := ((Sp.sl n1 d1 n2 d2) / (Sp.sh n3 d3 n4 d4))) (r := ((Sp.sh n1 d1 n2 d2) / (Sp.sl n3 d3 n4 d4))) (s := ((Sp.sh n1 d1 n2 d2) / (Sp.sh n3 d3 n4 d4))) (by simp [*])).2.2.2.1))) rfl))))) (lcons (congrArg (Value.int .i64) (show 2 = (Sp.e4 ((Sp.sl n1 d1 n2 d2) / (Sp.sl n3 d3 n4 d4)) ((Sp.sl n1 d1 n2 d2) / (Sp.sh n3 d3 n4 d4)) ((Sp.sh n1 d1 n2 d2) / (Sp.sl n3 d3 n4 d4)) ((Sp.sh n1 d1 n2 d2) / (Sp.sh n3 d3 n4 d4))) from by (exact (Sp.s4_no (p := ((Sp.sl n1 d1 n2 d2) / (Sp.sl n3 d3 n4 d4))) (q := ((Sp.sl n1 d1 n2 d2) / (Sp.sh n3 d3 n4 d4))) (r := ((Sp.sh n1 d1 n2 d2) / (Sp.sl n3 d3 n4 d4))) (s := ((Sp.sh n1 d1 n2 d2) / (Sp.sh n3 d3 n4 d4))) (by simp [*])).2.2.2.2))) rfl))))


end Go.Proofs.YtcokagabchjilaaGreat.Am
