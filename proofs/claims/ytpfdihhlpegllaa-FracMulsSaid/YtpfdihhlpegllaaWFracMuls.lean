/-
  The walk of the law FracMuls.
-/
import Derived.Test.YtpfdihhlpegllaaProg
import Derived.Test.YtpfdihhlpegllaaAm13
import Derived.Test.YtpfdihhlpegllaaFr3
namespace Go.Proofs.Ytpfdihhlpegllaa.Am
open Go Go.Proofs
set_option maxRecDepth 100000
set_option maxHeartbeats 4000000
set_option linter.unusedVariables false
set_option linter.unusedSimpArgs false

theorem fracMuls_walk (n1 d1 : Int) (zln1 : -9223372036854775808 ≤ n1) (zun1 : n1 ≤ 9223372036854775807) (zld1 : -9223372036854775808 ≤ d1) (zud1 : d1 ≤ 9223372036854775807) (n2 d2 : Int) (zln2 : -9223372036854775808 ≤ n2) (zun2 : n2 ≤ 9223372036854775807) (zld2 : -9223372036854775808 ≤ d2) (zud2 : d2 ≤ 9223372036854775807) (n m : Int) (zln : -9223372036854775808 ≤ n) (zun : n ≤ 9223372036854775807) (zlm : -9223372036854775808 ≤ m) (zum : m ≤ 9223372036854775807) :
    AC Try.prog 14 0 ([.agg #[.int .i64 n1, .int .i64 d1], .agg #[.int .i64 n2, .int .i64 d2], .int .i64 n, .int .i64 m]) [] (.bool true) [] := by
  have fn1 := Sp.fn_bd (d := d1) zln1 zun1; have fd1 := Sp.fd_bd (n := n1) zud1; have fn2 := Sp.fn_bd (d := d2) zln2 zun2; have fd2 := Sp.fd_bd (n := n2) zud2; have p0 := Sp.mul_bd (a := (Sp.fn n1 d1)) (b := (Sp.fd n2 d2)) (A := 9223372036854775807) (B := 9223372036854775807) (by omega) (by omega) (by omega) (by omega); have p1 := Sp.mul_bd (a := (Sp.fd n1 d1)) (b := (Sp.fn n2 d2)) (A := 9223372036854775807) (B := 9223372036854775807) (by omega) (by omega) (by omega) (by omega)
  refine ac_in Try.func14 (fun w0 W pin => ?_)
  refine aw_p 3 (
    .a 3 1 <| .nil _ _) ?_
  refine aw_sq 6 7 ?_
  refine aw_p 13 (
    .p (does_c (terrlaw1_fracBegun_ok)) <| .a 1 3 <| .nil _ _) ?_
  refine aw_fl 27 ?_
  refine aw_sk ?_
  refine then_normal ?_
  refine aw_p 15 (
    .a 2 3 <| .p (does_c (fmul_ok n1 d1 (by omega) (by omega) (by omega) (by omega) n2 d2 (by omega) (by omega) (by omega) (by omega))) <| .a 6 3 <| .nil _ _) ?_
  refine aw_p 31 (
    .a 2 4 <| .p (does_c (fdiv_ok n1 d1 (by omega) (by omega) (by omega) (by omega) n2 d2 (by omega) (by omega) (by omega) (by omega))) <| .a 6 4 <| .nil _ _) ?_
  refine aw_p 63 (
    .a 2 5 <| .p (does_c (fmake_ok n m (by omega) (by omega) (by omega) (by omega))) <| .a 6 5 <| .nil _ _) ?_
  refine aw_p 127 (
    .a 2 6 <| .p (does_c (rproduct_ok n1 d1 (by omega) (by omega) (by omega) (by omega) n2 d2 (by omega) (by omega) (by omega) (by omega))) <| .a 6 6 <| .nil _ _) ?_
  refine aw_p 255 (
    .a 1 7 <| .p (does_c (rpair_ok n1 d1 (by omega) (by omega) (by omega) (by omega))) <| .a 7 7 <| .nil _ _) ?_
  refine aw_p 511 (
    .a 1 9 <| .p (does_c (rpair_ok n2 d2 (by omega) (by omega) (by omega) (by omega))) <| .a 7 9 <| .nil _ _) ?_
  refine aw_d 1023 (
    .a 2 11 <| .p (does_c (ltimes_ok (Sp.fn n1 d1) (Sp.fd n2 d2))) <| .a 2 11 <| .p (does_c (ltimes_ok (Sp.fd n1 d1) (Sp.fn n2 d2))) <| .p (does_c (rdivq_ok n1 d1 n2 d2 (by omega) (by omega) (by omega) (by omega))) <| .a 6 11 <| .nil _ _) ?_
  refine aw_p 2047 (
    .a 1 12 <| .p (does_c (llof_ok n (by omega) (by omega))) <| .a 1 12 <| .p (does_c (llof_ok m (by omega) (by omega))) <| .p (does_c (rratio_ok n m (by omega) (by omega) (by omega) (by omega))) <| .a 6 12 <| .nil _ _) ?_
  refine aw_p 4095 (
    .a 4 13 <| .p (does_c (same_ok (Sp.qn ((Sp.rv n1 d1) * (Sp.rv n2 d2))) (Sp.qd ((Sp.rv n1 d1) * (Sp.rv n2 d2))) (Sp.qe ((Sp.rv n1 d1) * (Sp.rv n2 d2))))) <| .a 5 13 <|
    .p (does_c (same_ok (Sp.dvn (Sp.rv n1 d1) (Sp.rv n2 d2)) (Sp.dvd (Sp.rv n1 d1) (Sp.rv n2 d2)) (Sp.dve (Sp.rv n1 d1) (Sp.rv n2 d2)))) <| .a 6 13 <|
    .p (does_c (same_ok (Sp.dvn ((n : Int) : Rat) ((m : Int) : Rat)) (Sp.dvd ((n : Int) : Rat) ((m : Int) : Rat)) (Sp.dve ((n : Int) : Rat) ((m : Int) : Rat)))) <| .a 3 13 <| .p (does_c (fof_ok n)) <| .a 3 13 <|
    .p (does_e true ((show (((Sp.mx n (-9223372036854775807)) == (Sp.mx n (-9223372036854775807))) && ((1 == 1) && true)) = true from by simp))) <| .a 2 13 <| .nil _ _) ?_
  refine aw_rt ?_
  exact en_ret [.bool true] (by kernel_rfl)


end Go.Proofs.Ytpfdihhlpegllaa.Am
