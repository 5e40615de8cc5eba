/-
  Spans: rounded outward.
-/
import Derived.Test.YtcokagabchjilaaGreatProg
import Derived.Test.YtcokagabchjilaaGreatAm16
import Derived.Test.YtcokagabchjilaaGreatSn3
namespace Go.Proofs.YtcokagabchjilaaGreat.Am
open Go Go.Proofs
set_option maxRecDepth 100000
set_option maxHeartbeats 4000000
set_option linter.unusedVariables false
set_option linter.unusedSimpArgs false

theorem soutC_ok (n1 d1 : Int) (zln1 : -9223372036854775808 ≤ n1) (zun1 : n1 ≤ 9223372036854775807) (zld1 : -9223372036854775808 ≤ d1) (zud1 : d1 ≤ 9223372036854775807) (n2 d2 : Int) (zln2 : -9223372036854775808 ≤ n2) (zun2 : n2 ≤ 9223372036854775807) (zld2 : -9223372036854775808 ≤ d2) (zud2 : d2 ≤ 9223372036854775807) (n : Int) (zln : -9223372036854775808 ≤ n) (zun : n ≤ 9223372036854775807) (o1 : ¬ n < 1) (o2 : ¬ n > 1073741824) (o3 : Sp.fitq ((Sp.sl n1 d1 n2 d2) * ((n : Int) : Rat)) = true) (o4 : Sp.fitq ((-(Sp.sh n1 d1 n2 d2)) * ((n : Int) : Rat)) = true) :
    AC Tryz.prog 25 0 ([.agg #[.int .i64 n1, .int .i64 d1, .int .i64 n2, .int .i64 d2], .int .i64 n]) [] (.tuple #[.agg #[.int .i64 (Sp.dvn ((Rat.floor ((Sp.sl n1 d1 n2 d2) * ((n : Int) : Rat)) : Int) : Rat) ((n : Int) : Rat)), .int .i64 (Sp.dvd ((Rat.floor ((Sp.sl n1 d1 n2 d2) * ((n : Int) : Rat)) : Int) : Rat) ((n : Int) : Rat)), .int .i64 (Sp.dvn ((-Rat.floor ((-(Sp.sh n1 d1 n2 d2)) * ((n : Int) : Rat)) : Int) : Rat) ((n : Int) : Rat)), .int .i64 (Sp.dvd ((-Rat.floor ((-(Sp.sh n1 d1 n2 d2)) * ((n : Int) : Rat)) : Int) : Rat) ((n : Int) : Rat))], .int .i64 0]) [] := by
  have f3 := Sp.fl_fit o3; have f4 := Sp.fl_fit o4
  refine ac_in Tryz.func25 (fun w0 W pin => ?_)
  refine aw_p 3 (
    .a 3 1 <| .nil _ _) ?_
  refine aw_sq 6 7 ?_
  refine aw_p 13 (
    .a 1 3 <| .p (does_b false (decide_eq_false o1)) <| .a 2 3 <| .p (does_b false (decide_eq_false o2)) <| .a 1 3 <| .nil _ _) ?_
  refine aw_fl 27 ?_
  refine aw_sk ?_
  refine then_normal ?_
  refine aw_p 15 (
    .a 1 3 <| .p (does_c (sfit_ok n1 d1 (by omega) (by omega) (by omega) (by omega) n2 d2 (by omega) (by omega) (by omega) (by omega))) <| .a 1 3 <| .nil _ _) ?_
  refine aw_d 31 (
    .a 3 3 <| .p (does_c ((by have h := fof_ok n; rw [Sp.mx_id (by omega)] at h; exact h))) <|
    .p (does_c ((by have h := fmul_ok (Sp.qn (Sp.sl n1 d1 n2 d2)) (Sp.qd (Sp.sl n1 d1 n2 d2)) (by have := Sp.qn_bd (Sp.sl n1 d1 n2 d2); omega) (by have := Sp.qn_bd (Sp.sl n1 d1 n2 d2); omega) (by have := Sp.qd_bd (Sp.sl n1 d1 n2 d2); omega) (by have := Sp.qd_bd (Sp.sl n1 d1 n2 d2); omega) n 1 (by omega) (by omega) (by decide) (by decide); rw [(Sp.rv_fit (q := (Sp.sl n1 d1 n2 d2)) (Sp.fit_sl (by omega) (by omega) (by omega))), (Sp.rv_int n (by omega))] at h; exact h))) <|
    .a 6 3 <| .nil _ _) ?_
  refine aw_p 63 (
    .a 2 4 <|
    .p (does_c ((by have h := fneg_ok (Sp.qn (Sp.sh n1 d1 n2 d2)) (Sp.qd (Sp.sh n1 d1 n2 d2)) (by have := Sp.qn_bd (Sp.sh n1 d1 n2 d2); omega) (by have := Sp.qn_bd (Sp.sh n1 d1 n2 d2); omega) (by have := Sp.qd_bd (Sp.sh n1 d1 n2 d2); omega) (by have := Sp.qd_bd (Sp.sh n1 d1 n2 d2); omega); rw [(Sp.rv_fit (q := (Sp.sh n1 d1 n2 d2)) (Sp.fit_sh (by omega) (by omega) (by omega)))] at h; exact h))) <|
    .a 1 4 <| .p (does_c ((by have h := fof_ok n; rw [Sp.mx_id (by omega)] at h; exact h))) <|
    .p (does_c ((by have h := fmul_ok (Sp.qn (-(Sp.sh n1 d1 n2 d2))) (Sp.qd (-(Sp.sh n1 d1 n2 d2))) (by have := Sp.qn_bd (-(Sp.sh n1 d1 n2 d2)); omega) (by have := Sp.qn_bd (-(Sp.sh n1 d1 n2 d2)); omega) (by have := Sp.qd_bd (-(Sp.sh n1 d1 n2 d2)); omega) (by have := Sp.qd_bd (-(Sp.sh n1 d1 n2 d2)); omega) n 1 (by omega) (by omega) (by decide) (by decide); rw [(Sp.rv_fit (q := (-(Sp.sh n1 d1 n2 d2))) (Sp.fitq_neg (Sp.fit_sh (by omega) (by omega) (by omega)))), (Sp.rv_int n (by omega))] at h; exact h))) <|
    .a 6 4 <| .nil _ _) ?_
  refine aw_sq 126 127 ?_
  refine aw_p 253 (
    .a 1 5 <| .p (does_b false (((Sp.qe_ne0 ((Sp.sl n1 d1 n2 d2) * ((n : Int) : Rat)))).trans ((show (!(Sp.fitq ((Sp.sl n1 d1 n2 d2) * ((n : Int) : Rat)))) = false from (by rw [o3]; rfl))))) <| .a 2 5 <|
    .p (does_b false (((Sp.qe_ne0 ((-(Sp.sh n1 d1 n2 d2)) * ((n : Int) : Rat)))).trans ((show (!(Sp.fitq ((-(Sp.sh n1 d1 n2 d2)) * ((n : Int) : Rat)))) = false from (by rw [o4]; rfl))))) <| .a 1 5 <| .nil _ _) ?_
  refine aw_fl 507 ?_
  refine aw_sk ?_
  refine then_normal ?_
  refine aw_p 255 (
    .a 1 5 <|
    .p (does_c ((by have h := ffloor_ok (Sp.qn ((Sp.sl n1 d1 n2 d2) * ((n : Int) : Rat))) (Sp.qd ((Sp.sl n1 d1 n2 d2) * ((n : Int) : Rat))) (by have := Sp.qn_bd ((Sp.sl n1 d1 n2 d2) * ((n : Int) : Rat)); omega) (by have := Sp.qn_bd ((Sp.sl n1 d1 n2 d2) * ((n : Int) : Rat)); omega) (by have := Sp.qd_bd ((Sp.sl n1 d1 n2 d2) * ((n : Int) : Rat)); omega) (by have := Sp.qd_bd ((Sp.sl n1 d1 n2 d2) * ((n : Int) : Rat)); omega); rw [(Sp.rv_fit (q := ((Sp.sl n1 d1 n2 d2) * ((n : Int) : Rat))) o3)] at h; exact h))) <|
    .a 1 5 <| .p (does_c (fmake_ok (Rat.floor ((Sp.sl n1 d1 n2 d2) * ((n : Int) : Rat))) n (by omega) (by omega) (by omega) (by omega))) <| .a 6 5 <| .nil _ _) ?_
  refine aw_p 511 (
    .a 1 6 <|
    .p (does_c ((by have h := ffloor_ok (Sp.qn ((-(Sp.sh n1 d1 n2 d2)) * ((n : Int) : Rat))) (Sp.qd ((-(Sp.sh n1 d1 n2 d2)) * ((n : Int) : Rat))) (by have := Sp.qn_bd ((-(Sp.sh n1 d1 n2 d2)) * ((n : Int) : Rat)); omega) (by have := Sp.qn_bd ((-(Sp.sh n1 d1 n2 d2)) * ((n : Int) : Rat)); omega) (by have := Sp.qd_bd ((-(Sp.sh n1 d1 n2 d2)) * ((n : Int) : Rat)); omega) (by have := Sp.qd_bd ((-(Sp.sh n1 d1 n2 d2)) * ((n : Int) : Rat)); omega); rw [(Sp.rv_fit (q := ((-(Sp.sh n1 d1 n2 d2)) * ((n : Int) : Rat))) o4)] at h; exact h))) <|
    .p (does_i (0 - (Rat.floor ((-(Sp.sh n1 d1 n2 d2)) * ((n : Int) : Rat)))) (wrap_i64 (by omega) (by omega)) .i64) <| .a 1 6 <| .p (does_c (fmake_ok (0 - (Rat.floor ((-(Sp.sh n1 d1 n2 d2)) * ((n : Int) : Rat)))) n (by omega) (by omega) (by omega) (by omega))) <| .a 6 6 <| .nil _ _) ?_
  refine aw_p 1023 (
    .a 5 7 <| .nil _ _) ?_
  refine aw_rt ?_
  exact en_ret [.agg #[.int .i64 (Sp.dvn ((Rat.floor ((Sp.sl n1 d1 n2 d2) * ((n : Int) : Rat)) : Int) : Rat) ((n : Int) : Rat)), .int .i64 (Sp.dvd ((Rat.floor ((Sp.sl n1 d1 n2 d2) * ((n : Int) : Rat)) : Int) : Rat) ((n : Int) : Rat)), .int .i64 (Sp.dvn ((0 - (Rat.floor ((-(Sp.sh n1 d1 n2 d2)) * ((n : Int) : Rat))) : Int) : Rat) ((n : Int) : Rat)), .int .i64 (Sp.dvd ((0 - (Rat.floor ((-(Sp.sh n1 d1 n2 d2)) * ((n : Int) : Rat))) : Int) : Rat) ((n : Int) : Rat))], .int .i64 0] (show (.tuple #[.agg #[.int .i64 (Sp.dvn ((Rat.floor ((Sp.sl n1 d1 n2 d2) * ((n : Int) : Rat)) : Int) : Rat) ((n : Int) : Rat)), .int .i64 (Sp.dvd ((Rat.floor ((Sp.sl n1 d1 n2 d2) * ((n : Int) : Rat)) : Int) : Rat) ((n : Int) : Rat)), .int .i64 (Sp.dvn ((0 - (Rat.floor ((-(Sp.sh n1 d1 n2 d2)) * ((n : Int) : Rat))) : Int) : Rat) ((n : Int) : Rat)), .int .i64 (Sp.dvd ((0 - (Rat.floor ((-(Sp.sh n1 d1 n2 d2)) * ((n : Int) : Rat))) : Int) : Rat) ((n : Int) : Rat))], .int .i64 0] : Value) = (.tuple #[.agg #[.int .i64 (Sp.dvn ((Rat.floor ((Sp.sl n1 d1 n2 d2) * ((n : Int) : Rat)) : Int) : Rat) ((n : Int) : Rat)), .int .i64 (Sp.dvd ((Rat.floor ((Sp.sl n1 d1 n2 d2) * ((n : Int) : Rat)) : Int) : Rat) ((n : Int) : Rat)), .int .i64 (Sp.dvn ((-Rat.floor ((-(Sp.sh n1 d1 n2 d2)) * ((n : Int) : Rat)) : Int) : Rat) ((n : Int) : Rat)), .int .i64 (Sp.dvd ((-Rat.floor ((-(Sp.sh n1 d1 n2 d2)) * ((n : Int) : Rat)) : Int) : Rat) ((n : Int) : Rat))], .int .i64 0]) from (congrArg (fun z : List Value => Value.tuple z.toArray) (lcons (congrArg (fun z : List Value => Value.agg z.toArray) (lcons rfl (lcons rfl (lcons (congrArg (Value.int .i64) (show (Sp.dvn ((0 - (Rat.floor ((-(Sp.sh n1 d1 n2 d2)) * ((n : Int) : Rat))) : Int) : Rat) ((n : Int) : Rat)) = (Sp.dvn ((-Rat.floor ((-(Sp.sh n1 d1 n2 d2)) * ((n : Int) : Rat)) : Int) : Rat) ((n : Int) : Rat)) from by (first | rfl | (rw [Int.zero_sub])))) (lcons (congrArg (Value.int .i64) (show (Sp.dvd ((0 - (Rat.floor ((-(Sp.sh n1 d1 n2 d2)) * ((n : Int) : Rat))) : Int) : Rat) ((n : Int) : Rat)) = (Sp.dvd ((-Rat.floor ((-(Sp.sh n1 d1 n2 d2)) * ((n : Int) : Rat)) : Int) : Rat) ((n : Int) : Rat)) from by (first | rfl | (rw [Int.zero_sub])))) rfl))))) (lcons rfl rfl))))


end Go.Proofs.YtcokagabchjilaaGreat.Am
