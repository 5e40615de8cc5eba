/-
  The walk of the law SpanMuls.
-/
import Derived.Test.YthflpnpnlpaigaaProg
import Derived.Test.YthflpnpnlpaigaaAm13
import Derived.Test.YthflpnpnlpaigaaSn4
import Derived.Test.YthflpnpnlpaigaaSn6
import Derived.Test.YthflpnpnlpaigaaSn7
namespace Go.Proofs.Ythflpnpnlpaigaa.Am
open Go Go.Proofs
set_option maxRecDepth 100000
set_option maxHeartbeats 4000000
set_option linter.unusedVariables false
set_option linter.unusedSimpArgs false

theorem spanMuls_walk (n1 d1 : Int) (zln1 : -9223372036854775808 ≤ n1) (zun1 : n1 ≤ 9223372036854775807) (zld1 : -9223372036854775808 ≤ d1) (zud1 : d1 ≤ 9223372036854775807) (n2 d2 : Int) (zln2 : -9223372036854775808 ≤ n2) (zun2 : n2 ≤ 9223372036854775807) (zld2 : -9223372036854775808 ≤ d2) (zud2 : d2 ≤ 9223372036854775807) (n3 d3 : Int) (zln3 : -9223372036854775808 ≤ n3) (zun3 : n3 ≤ 9223372036854775807) (zld3 : -9223372036854775808 ≤ d3) (zud3 : d3 ≤ 9223372036854775807) (n4 d4 : Int) (zln4 : -9223372036854775808 ≤ n4) (zun4 : n4 ≤ 9223372036854775807) (zld4 : -9223372036854775808 ≤ d4) (zud4 : d4 ≤ 9223372036854775807) :
    AC Try.prog 8 0 ([.agg #[.int .i64 n1, .int .i64 d1, .int .i64 n2, .int .i64 d2], .agg #[.int .i64 n3, .int .i64 d3, .int .i64 n4, .int .i64 d4]]) [] (.bool true) [] := by
  refine ac_in Try.func8 (fun w0 W pin => ?_)
  refine aw_p 3 (
    .a 3 1 <| .nil _ _) ?_
  refine aw_sq 6 7 ?_
  refine aw_p 13 (
    .p (does_c (terrlaw1_spanBegun_ok)) <| .a 1 3 <| .nil _ _) ?_
  refine aw_fl 27 ?_
  refine aw_sk ?_
  refine then_normal ?_
  refine aw_p 15 (
    .a 2 3 <| .p (does_c (smul_ok n1 d1 (by omega) (by omega) (by omega) (by omega) n2 d2 (by omega) (by omega) (by omega) (by omega) n3 d3 (by omega) (by omega) (by omega) (by omega) n4 d4 (by omega) (by omega) (by omega) (by omega))) <| .a 6 3 <| .nil _ _) ?_
  refine aw_p 31 (
    .a 2 4 <| .p (does_c (endsP_ok n1 d1 (by omega) (by omega) (by omega) (by omega) n2 d2 (by omega) (by omega) (by omega) (by omega) n3 d3 (by omega) (by omega) (by omega) (by omega) n4 d4 (by omega) (by omega) (by omega) (by omega))) <| .a 6 4 <| .nil _ _) ?_
  refine aw_sq 62 63 ?_
  refine aw_p 125 (
    .a 2 5 <|
    .p (does_e false ((show (!((((Sp.m4n ((Sp.sl n1 d1 n2 d2) * (Sp.sl n3 d3 n4 d4)) ((Sp.sl n1 d1 n2 d2) * (Sp.sh n3 d3 n4 d4)) ((Sp.sh n1 d1 n2 d2) * (Sp.sl n3 d3 n4 d4)) ((Sp.sh n1 d1 n2 d2) * (Sp.sh n3 d3 n4 d4))) == (Sp.m4n ((Sp.sl n1 d1 n2 d2) * (Sp.sl n3 d3 n4 d4)) ((Sp.sl n1 d1 n2 d2) * (Sp.sh n3 d3 n4 d4)) ((Sp.sh n1 d1 n2 d2) * (Sp.sl n3 d3 n4 d4)) ((Sp.sh n1 d1 n2 d2) * (Sp.sh n3 d3 n4 d4)))) && (((Sp.m4d ((Sp.sl n1 d1 n2 d2) * (Sp.sl n3 d3 n4 d4)) ((Sp.sl n1 d1 n2 d2) * (Sp.sh n3 d3 n4 d4)) ((Sp.sh n1 d1 n2 d2) * (Sp.sl n3 d3 n4 d4)) ((Sp.sh n1 d1 n2 d2) * (Sp.sh n3 d3 n4 d4))) == (Sp.m4d ((Sp.sl n1 d1 n2 d2) * (Sp.sl n3 d3 n4 d4)) ((Sp.sl n1 d1 n2 d2) * (Sp.sh n3 d3 n4 d4)) ((Sp.sh n1 d1 n2 d2) * (Sp.sl n3 d3 n4 d4)) ((Sp.sh n1 d1 n2 d2) * (Sp.sh n3 d3 n4 d4)))) && true)) && ((((Sp.x4n ((Sp.sl n1 d1 n2 d2) * (Sp.sl n3 d3 n4 d4)) ((Sp.sl n1 d1 n2 d2) * (Sp.sh n3 d3 n4 d4)) ((Sp.sh n1 d1 n2 d2) * (Sp.sl n3 d3 n4 d4)) ((Sp.sh n1 d1 n2 d2) * (Sp.sh n3 d3 n4 d4))) == (Sp.x4n ((Sp.sl n1 d1 n2 d2) * (Sp.sl n3 d3 n4 d4)) ((Sp.sl n1 d1 n2 d2) * (Sp.sh n3 d3 n4 d4)) ((Sp.sh n1 d1 n2 d2) * (Sp.sl n3 d3 n4 d4)) ((Sp.sh n1 d1 n2 d2) * (Sp.sh n3 d3 n4 d4)))) && (((Sp.x4d ((Sp.sl n1 d1 n2 d2) * (Sp.sl n3 d3 n4 d4)) ((Sp.sl n1 d1 n2 d2) * (Sp.sh n3 d3 n4 d4)) ((Sp.sh n1 d1 n2 d2) * (Sp.sl n3 d3 n4 d4)) ((Sp.sh n1 d1 n2 d2) * (Sp.sh n3 d3 n4 d4))) == (Sp.x4d ((Sp.sl n1 d1 n2 d2) * (Sp.sl n3 d3 n4 d4)) ((Sp.sl n1 d1 n2 d2) * (Sp.sh n3 d3 n4 d4)) ((Sp.sh n1 d1 n2 d2) * (Sp.sl n3 d3 n4 d4)) ((Sp.sh n1 d1 n2 d2) * (Sp.sh n3 d3 n4 d4)))) && true)) && true))) = false from by simp))) <|
    .a 3 5 <|
    .p (does_b false ((show ((Sp.e4 ((Sp.sl n1 d1 n2 d2) * (Sp.sl n3 d3 n4 d4)) ((Sp.sl n1 d1 n2 d2) * (Sp.sh n3 d3 n4 d4)) ((Sp.sh n1 d1 n2 d2) * (Sp.sl n3 d3 n4 d4)) ((Sp.sh n1 d1 n2 d2) * (Sp.sh n3 d3 n4 d4))) != (Sp.e4 ((Sp.sl n1 d1 n2 d2) * (Sp.sl n3 d3 n4 d4)) ((Sp.sl n1 d1 n2 d2) * (Sp.sh n3 d3 n4 d4)) ((Sp.sh n1 d1 n2 d2) * (Sp.sl n3 d3 n4 d4)) ((Sp.sh n1 d1 n2 d2) * (Sp.sh n3 d3 n4 d4)))) = false from by simp))) <|
    .a 1 5 <| .nil _ _) ?_
  refine aw_fl 251 ?_
  refine aw_sk ?_
  refine then_normal ?_
  rcases Bool.eq_false_or_eq_true (Sp.inS (Sp.sl n3 d3 n4 d4) (Sp.sh n3 d3 n4 d4) ((0 : Int) : Rat)) with h1 | h1
  · have h1p : (Sp.inS (Sp.sl n3 d3 n4 d4) (Sp.sh n3 d3 n4 d4) ((0 : Int) : Rat)) = true := by simpa using h1
    refine aw_p 127 (
      .a 2 5 <| .p (does_c (sdivY_ok n1 d1 (by omega) (by omega) (by omega) (by omega) n2 d2 (by omega) (by omega) (by omega) (by omega) n3 d3 (by omega) (by omega) (by omega) (by omega) n4 d4 (by omega) (by omega) (by omega) (by omega) h1)) <| .a 6 5 <| .nil _ _) ?_
    refine aw_sq 254 255 ?_
    refine aw_p 509 (
      .a 1 6 <| .p (does_c (dgood_ok n3 d3 (by omega) (by omega) (by omega) (by omega) n4 d4 (by omega) (by omega) (by omega) (by omega))) <| .a 1 6 <|
      .p (does_cb _ ((by have h := in_ok (Sp.qn (Sp.sl n3 d3 n4 d4)) (Sp.qd (Sp.sl n3 d3 n4 d4)) (by have := Sp.qn_bd (Sp.sl n3 d3 n4 d4); omega) (by have := Sp.qn_bd (Sp.sl n3 d3 n4 d4); omega) (by have := Sp.qd_bd (Sp.sl n3 d3 n4 d4); omega) (by have := Sp.qd_bd (Sp.sl n3 d3 n4 d4); omega) (Sp.qn (Sp.sh n3 d3 n4 d4)) (Sp.qd (Sp.sh n3 d3 n4 d4)) (by have := Sp.qn_bd (Sp.sh n3 d3 n4 d4); omega) (by have := Sp.qn_bd (Sp.sh n3 d3 n4 d4); omega) (by have := Sp.qd_bd (Sp.sh n3 d3 n4 d4); omega) (by have := Sp.qd_bd (Sp.sh n3 d3 n4 d4); omega) 0 1 (by decide) (by decide) (by decide) (by decide); rw [(Sp.rv_fit (q := (Sp.sl n3 d3 n4 d4)) (Sp.fit_sl (by omega) (by omega) (by omega))), (Sp.rv_fit (q := (Sp.sh n3 d3 n4 d4)) (Sp.fit_sh (by omega) (by omega) (by omega))), (Sp.rv_int 0 (by decide))] at h; exact h)) true (h1)) <| .nil _ _) ?_
    refine aw_tr 1018 ?_
    refine aw_p 2037 (
      .a 2 6 <| .p (does_e true ((show (((0 == 0) && ((0 == 0) && true)) && (((0 == 0) && ((0 == 0) && true)) && true)) = true from by decide))) <| .a 5 6 <| .nil _ _) ?_
    refine aw_rt ?_
    refine then_ret ?_
    exact en_ret [.bool true] (by kernel_rfl)
  · have h1p : ¬ (Sp.inS (Sp.sl n3 d3 n4 d4) (Sp.sh n3 d3 n4 d4) ((0 : Int) : Rat)) = true := by simpa using h1
    refine aw_p 127 (
      .a 2 5 <| .p (does_c (sdivN_ok n1 d1 (by omega) (by omega) (by omega) (by omega) n2 d2 (by omega) (by omega) (by omega) (by omega) n3 d3 (by omega) (by omega) (by omega) (by omega) n4 d4 (by omega) (by omega) (by omega) (by omega) h1)) <| .a 6 5 <| .nil _ _) ?_
    refine aw_sq 254 255 ?_
    refine aw_p 509 (
      .a 1 6 <| .p (does_c (dgood_ok n3 d3 (by omega) (by omega) (by omega) (by omega) n4 d4 (by omega) (by omega) (by omega) (by omega))) <| .a 1 6 <|
      .p (does_cb _ ((by have h := in_ok (Sp.qn (Sp.sl n3 d3 n4 d4)) (Sp.qd (Sp.sl n3 d3 n4 d4)) (by have := Sp.qn_bd (Sp.sl n3 d3 n4 d4); omega) (by have := Sp.qn_bd (Sp.sl n3 d3 n4 d4); omega) (by have := Sp.qd_bd (Sp.sl n3 d3 n4 d4); omega) (by have := Sp.qd_bd (Sp.sl n3 d3 n4 d4); omega) (Sp.qn (Sp.sh n3 d3 n4 d4)) (Sp.qd (Sp.sh n3 d3 n4 d4)) (by have := Sp.qn_bd (Sp.sh n3 d3 n4 d4); omega) (by have := Sp.qn_bd (Sp.sh n3 d3 n4 d4); omega) (by have := Sp.qd_bd (Sp.sh n3 d3 n4 d4); omega) (by have := Sp.qd_bd (Sp.sh n3 d3 n4 d4); omega) 0 1 (by decide) (by decide) (by decide) (by decide); rw [(Sp.rv_fit (q := (Sp.sl n3 d3 n4 d4)) (Sp.fit_sl (by omega) (by omega) (by omega))), (Sp.rv_fit (q := (Sp.sh n3 d3 n4 d4)) (Sp.fit_sh (by omega) (by omega) (by omega))), (Sp.rv_int 0 (by decide))] at h; exact h)) false (h1)) <| .nil _ _) ?_
    refine aw_fl 1019 ?_
    refine aw_sk ?_
    refine then_normal ?_
    refine aw_p 511 (
      .a 2 6 <|
      .p (does_c (endsQ_ok n1 d1 (by omega) (by omega) (by omega) (by omega) n2 d2 (by omega) (by omega) (by omega) (by omega) n3 d3 (by omega) (by omega) (by omega) (by omega) n4 d4 (by omega) (by omega) (by omega) (by omega) (Sp.in_nz (Sp.sl_le n3 d3 n4 d4) h1).1 (Sp.in_nz (Sp.sl_le n3 d3 n4 d4) h1).2)) <|
      .a 5 6 <| .nil _ _) ?_
    refine aw_p 1023 (
      .a 2 6 <|
      .p (does_e true ((show ((((Sp.m4n ((Sp.sl n1 d1 n2 d2) / (Sp.sl n3 d3 n4 d4)) ((Sp.sl n1 d1 n2 d2) / (Sp.sh n3 d3 n4 d4)) ((Sp.sh n1 d1 n2 d2) / (Sp.sl n3 d3 n4 d4)) ((Sp.sh n1 d1 n2 d2) / (Sp.sh n3 d3 n4 d4))) == (Sp.m4n ((Sp.sl n1 d1 n2 d2) / (Sp.sl n3 d3 n4 d4)) ((Sp.sl n1 d1 n2 d2) / (Sp.sh n3 d3 n4 d4)) ((Sp.sh n1 d1 n2 d2) / (Sp.sl n3 d3 n4 d4)) ((Sp.sh n1 d1 n2 d2) / (Sp.sh n3 d3 n4 d4)))) && (((Sp.m4d ((Sp.sl n1 d1 n2 d2) / (Sp.sl n3 d3 n4 d4)) ((Sp.sl n1 d1 n2 d2) / (Sp.sh n3 d3 n4 d4)) ((Sp.sh n1 d1 n2 d2) / (Sp.sl n3 d3 n4 d4)) ((Sp.sh n1 d1 n2 d2) / (Sp.sh n3 d3 n4 d4))) == (Sp.m4d ((Sp.sl n1 d1 n2 d2) / (Sp.sl n3 d3 n4 d4)) ((Sp.sl n1 d1 n2 d2) / (Sp.sh n3 d3 n4 d4)) ((Sp.sh n1 d1 n2 d2) / (Sp.sl n3 d3 n4 d4)) ((Sp.sh n1 d1 n2 d2) / (Sp.sh n3 d3 n4 d4)))) && true)) && ((((Sp.x4n ((Sp.sl n1 d1 n2 d2) / (Sp.sl n3 d3 n4 d4)) ((Sp.sl n1 d1 n2 d2) / (Sp.sh n3 d3 n4 d4)) ((Sp.sh n1 d1 n2 d2) / (Sp.sl n3 d3 n4 d4)) ((Sp.sh n1 d1 n2 d2) / (Sp.sh n3 d3 n4 d4))) == (Sp.x4n ((Sp.sl n1 d1 n2 d2) / (Sp.sl n3 d3 n4 d4)) ((Sp.sl n1 d1 n2 d2) / (Sp.sh n3 d3 n4 d4)) ((Sp.sh n1 d1 n2 d2) / (Sp.sl n3 d3 n4 d4)) ((Sp.sh n1 d1 n2 d2) / (Sp.sh n3 d3 n4 d4)))) && (((Sp.x4d ((Sp.sl n1 d1 n2 d2) / (Sp.sl n3 d3 n4 d4)) ((Sp.sl n1 d1 n2 d2) / (Sp.sh n3 d3 n4 d4)) ((Sp.sh n1 d1 n2 d2) / (Sp.sl n3 d3 n4 d4)) ((Sp.sh n1 d1 n2 d2) / (Sp.sh n3 d3 n4 d4))) == (Sp.x4d ((Sp.sl n1 d1 n2 d2) / (Sp.sl n3 d3 n4 d4)) ((Sp.sl n1 d1 n2 d2) / (Sp.sh n3 d3 n4 d4)) ((Sp.sh n1 d1 n2 d2) / (Sp.sl n3 d3 n4 d4)) ((Sp.sh n1 d1 n2 d2) / (Sp.sh n3 d3 n4 d4)))) && true)) && true)) = true from by simp))) <|
      .a 3 6 <|
      .p (does_b true ((show ((Sp.e4 ((Sp.sl n1 d1 n2 d2) / (Sp.sl n3 d3 n4 d4)) ((Sp.sl n1 d1 n2 d2) / (Sp.sh n3 d3 n4 d4)) ((Sp.sh n1 d1 n2 d2) / (Sp.sl n3 d3 n4 d4)) ((Sp.sh n1 d1 n2 d2) / (Sp.sh n3 d3 n4 d4))) == (Sp.e4 ((Sp.sl n1 d1 n2 d2) / (Sp.sl n3 d3 n4 d4)) ((Sp.sl n1 d1 n2 d2) / (Sp.sh n3 d3 n4 d4)) ((Sp.sh n1 d1 n2 d2) / (Sp.sl n3 d3 n4 d4)) ((Sp.sh n1 d1 n2 d2) / (Sp.sh n3 d3 n4 d4)))) = true from by simp))) <|
      .a 2 6 <| .nil _ _) ?_
    refine aw_rt ?_
    exact en_ret [.bool true] (by kernel_rfl)


end Go.Proofs.Ythflpnpnlpaigaa.Am
