/-
  The walk of the law SpanMeets.
-/
import Derived.Test.YthflpnpnlpaigaaProg
import Derived.Test.YthflpnpnlpaigaaAm13
import Derived.Test.YthflpnpnlpaigaaSm1
namespace Go.Proofs.Ythflpnpnlpaigaa.Am
open Go Go.Proofs
set_option maxRecDepth 100000
set_option maxHeartbeats 4000000
set_option linter.unusedVariables false
set_option linter.unusedSimpArgs false

theorem spanMeets_walk (x : Int) (zlx : -9223372036854775808 ≤ x) (zux : x ≤ 9223372036854775807) (y : Int) (zly : -9223372036854775808 ≤ y) (zuy : y ≤ 9223372036854775807) (u : Int) (zlu : -9223372036854775808 ≤ u) (zuu : u ≤ 9223372036854775807) (v : Int) (zlv : -9223372036854775808 ≤ v) (zuv : v ≤ 9223372036854775807) (e : Int) (zle : -9223372036854775808 ≤ e) (zue : e ≤ 9223372036854775807) :
    AC Try.prog 11 0 ([.int .i64 x, .int .i64 y, .int .i64 u, .int .i64 v, .int .i64 e]) [] (.bool true) [] := by
  obtain ⟨n, hn, n0, n1⟩ : ∃ n : Int, 1 + e % 50 = n ∧ 1 ≤ n ∧ n ≤ 50 := ⟨1 + e % 50, rfl, by omega, by omega⟩
  refine ac_in Try.func11 (fun w0 W pin => ?_)
  refine aw_p 3 (
    .a 1 1 <| .nil _ _) ?_
  refine aw_sq 6 7 ?_
  refine aw_p 13 (
    .p (does_c (terrkeep1_spanBegun_ok)) <| .a 1 1 <| .nil _ _) ?_
  refine aw_fl 27 ?_
  refine aw_sk ?_
  refine then_normal ?_
  refine aw_p 15 (
    .a 2 1 <| .p (does_c (made_ok x (by omega) (by omega) y (by omega) (by omega))) <| .a 2 1 <| .p (does_c (made_ok u (by omega) (by omega) v (by omega) (by omega))) <| .a 4 1 <| .nil _ _) ?_
  refine aw_p 31 (
    .a 1 3 <| .p (does_c (below_ok e 50 (by decide) (by decide))) <| .p (does_i n ((show (IntKind.wrap .i64 (1 + (e % 50))) = n from (by rw [← hn]; exact wrap_i64 (by omega) (by omega)))) .i64) <| .a 1 3 <| .nil _ _) ?_
  refine aw_p 63 (
    .a 2 3 <|
    .p (does_c ((by have h := ssub_ok (Sp.qn (Sp.ml x y)) (Sp.qd (Sp.ml x y)) (by have := Sp.qn_bd (Sp.ml x y); omega) (by have := Sp.qn_bd (Sp.ml x y); omega) (by have := Sp.qd_bd (Sp.ml x y); omega) (by have := Sp.qd_bd (Sp.ml x y); omega) (Sp.qn (Sp.mh x y)) (Sp.qd (Sp.mh x y)) (by have := Sp.qn_bd (Sp.mh x y); omega) (by have := Sp.qn_bd (Sp.mh x y); omega) (by have := Sp.qd_bd (Sp.mh x y); omega) (by have := Sp.qd_bd (Sp.mh x y); omega) (Sp.qn (Sp.ml u v)) (Sp.qd (Sp.ml u v)) (by have := Sp.qn_bd (Sp.ml u v); omega) (by have := Sp.qn_bd (Sp.ml u v); omega) (by have := Sp.qd_bd (Sp.ml u v); omega) (by have := Sp.qd_bd (Sp.ml u v); omega) (Sp.qn (Sp.mh u v)) (Sp.qd (Sp.mh u v)) (by have := Sp.qn_bd (Sp.mh u v); omega) (by have := Sp.qn_bd (Sp.mh u v); omega) (by have := Sp.qd_bd (Sp.mh u v); omega) (by have := Sp.qd_bd (Sp.mh u v); omega); rw [(Sp.sl_told (p := Sp.ml x y) (q := Sp.mh x y) (Sp.bd_fit (Sp.ml_bd x y) (by decide) (by decide)) (Sp.bd_fit (Sp.mh_bd x y) (by decide) (by decide)) (Sp.ml_le x y)).1, (Sp.sl_told (p := Sp.ml x y) (q := Sp.mh x y) (Sp.bd_fit (Sp.ml_bd x y) (by decide) (by decide)) (Sp.bd_fit (Sp.mh_bd x y) (by decide) (by decide)) (Sp.ml_le x y)).2, (Sp.sl_told (p := Sp.ml u v) (q := Sp.mh u v) (Sp.bd_fit (Sp.ml_bd u v) (by decide) (by decide)) (Sp.bd_fit (Sp.mh_bd u v) (by decide) (by decide)) (Sp.ml_le u v)).1, (Sp.sl_told (p := Sp.ml u v) (q := Sp.mh u v) (Sp.bd_fit (Sp.ml_bd u v) (by decide) (by decide)) (Sp.bd_fit (Sp.mh_bd u v) (by decide) (by decide)) (Sp.ml_le u v)).2, ← (Sp.s2_yes (p := (Sp.ml x y) + (-(Sp.mh u v))) (q := (Sp.mh x y) + (-(Sp.ml u v))) (Sp.bd_fit (Sp.Bd.add (Sp.ml_bd x y) (Sp.Bd.neg (Sp.mh_bd u v))) (by decide) (by decide)) (Sp.bd_fit (Sp.Bd.add (Sp.mh_bd x y) (Sp.Bd.neg (Sp.ml_bd u v))) (by decide) (by decide))).1, ← (Sp.s2_yes (p := (Sp.ml x y) + (-(Sp.mh u v))) (q := (Sp.mh x y) + (-(Sp.ml u v))) (Sp.bd_fit (Sp.Bd.add (Sp.ml_bd x y) (Sp.Bd.neg (Sp.mh_bd u v))) (by decide) (by decide)) (Sp.bd_fit (Sp.Bd.add (Sp.mh_bd x y) (Sp.Bd.neg (Sp.ml_bd u v))) (by decide) (by decide))).2.1, ← (Sp.s2_yes (p := (Sp.ml x y) + (-(Sp.mh u v))) (q := (Sp.mh x y) + (-(Sp.ml u v))) (Sp.bd_fit (Sp.Bd.add (Sp.ml_bd x y) (Sp.Bd.neg (Sp.mh_bd u v))) (by decide) (by decide)) (Sp.bd_fit (Sp.Bd.add (Sp.mh_bd x y) (Sp.Bd.neg (Sp.ml_bd u v))) (by decide) (by decide))).2.2.1, ← (Sp.s2_yes (p := (Sp.ml x y) + (-(Sp.mh u v))) (q := (Sp.mh x y) + (-(Sp.ml u v))) (Sp.bd_fit (Sp.Bd.add (Sp.ml_bd x y) (Sp.Bd.neg (Sp.mh_bd u v))) (by decide) (by decide)) (Sp.bd_fit (Sp.Bd.add (Sp.mh_bd x y) (Sp.Bd.neg (Sp.ml_bd u v))) (by decide) (by decide))).2.2.2.1, ← (Sp.s2_yes (p := (Sp.ml x y) + (-(Sp.mh u v))) (q := (Sp.mh x y) + (-(Sp.ml u v))) (Sp.bd_fit (Sp.Bd.add (Sp.ml_bd x y) (Sp.Bd.neg (Sp.mh_bd u v))) (by decide) (by decide)) (Sp.bd_fit (Sp.Bd.add (Sp.mh_bd x y) (Sp.Bd.neg (Sp.ml_bd u v))) (by decide) (by decide))).2.2.2.2, Sp.rmin_le (Sp.radd_le (Sp.ml_le x y) (Rat.neg_le_neg (Sp.ml_le u v))), Sp.rmax_le (Sp.radd_le (Sp.ml_le x y) (Rat.neg_le_neg (Sp.ml_le u v)))] at h; exact h))) <|
    .a 6 3 <| .nil _ _) ?_
  refine aw_p 127 (
    .a 2 4 <|
    .p (does_c ((by have h := soutC_ok (Sp.qn (Sp.ml x y)) (Sp.qd (Sp.ml x y)) (by have := Sp.qn_bd (Sp.ml x y); omega) (by have := Sp.qn_bd (Sp.ml x y); omega) (by have := Sp.qd_bd (Sp.ml x y); omega) (by have := Sp.qd_bd (Sp.ml x y); omega) (Sp.qn (Sp.mh x y)) (Sp.qd (Sp.mh x y)) (by have := Sp.qn_bd (Sp.mh x y); omega) (by have := Sp.qn_bd (Sp.mh x y); omega) (by have := Sp.qd_bd (Sp.mh x y); omega) (by have := Sp.qd_bd (Sp.mh x y); omega) n (by omega) (by omega) (by omega) (by omega) (show Sp.fitq ((Sp.sl (Sp.qn (Sp.ml x y)) (Sp.qd (Sp.ml x y)) (Sp.qn (Sp.mh x y)) (Sp.qd (Sp.mh x y))) * ((n : Int) : Rat)) = true from (by rw [(Sp.sl_told (p := Sp.ml x y) (q := Sp.mh x y) (Sp.bd_fit (Sp.ml_bd x y) (by decide) (by decide)) (Sp.bd_fit (Sp.mh_bd x y) (by decide) (by decide)) (Sp.ml_le x y)).1]; exact (Sp.bd_fit (Sp.Bd.mul (Sp.ml_bd x y) (Sp.den_bd (n := n) (by omega) (by omega))) (by decide) (by decide)))) (show Sp.fitq ((-(Sp.sh (Sp.qn (Sp.ml x y)) (Sp.qd (Sp.ml x y)) (Sp.qn (Sp.mh x y)) (Sp.qd (Sp.mh x y)))) * ((n : Int) : Rat)) = true from (by rw [(Sp.sl_told (p := Sp.ml x y) (q := Sp.mh x y) (Sp.bd_fit (Sp.ml_bd x y) (by decide) (by decide)) (Sp.bd_fit (Sp.mh_bd x y) (by decide) (by decide)) (Sp.ml_le x y)).2]; exact (Sp.bd_fit (Sp.Bd.mul (Sp.Bd.neg (Sp.mh_bd x y)) (Sp.den_bd (n := n) (by omega) (by omega))) (by decide) (by decide)))); rw [(Sp.sl_told (p := Sp.ml x y) (q := Sp.mh x y) (Sp.bd_fit (Sp.ml_bd x y) (by decide) (by decide)) (Sp.bd_fit (Sp.mh_bd x y) (by decide) (by decide)) (Sp.ml_le x y)).1, (Sp.sl_told (p := Sp.ml x y) (q := Sp.mh x y) (Sp.bd_fit (Sp.ml_bd x y) (by decide) (by decide)) (Sp.bd_fit (Sp.mh_bd x y) (by decide) (by decide)) (Sp.ml_le x y)).2, (Sp.dv_yes (a := ((Rat.floor ((Sp.ml x y) * ((n : Int) : Rat)) : Int) : Rat)) (Sp.cast_ne1 (n := n) (by omega))).1, (Sp.dv_yes (a := ((Rat.floor ((Sp.ml x y) * ((n : Int) : Rat)) : Int) : Rat)) (Sp.cast_ne1 (n := n) (by omega))).2.1, (Sp.dv_yes (a := ((-Rat.floor ((-(Sp.mh x y)) * ((n : Int) : Rat)) : Int) : Rat)) (Sp.cast_ne1 (n := n) (by omega))).1, (Sp.dv_yes (a := ((-Rat.floor ((-(Sp.mh x y)) * ((n : Int) : Rat)) : Int) : Rat)) (Sp.cast_ne1 (n := n) (by omega))).2.1] at h; exact h))) <|
    .a 6 4 <| .nil _ _) ?_
  refine aw_p 255 (
    .a 2 5 <|
    .p (does_c ((by have h := soutC_ok (Sp.qn (Sp.oL (Sp.ml x y) n)) (Sp.qd (Sp.oL (Sp.ml x y) n)) (by have := Sp.qn_bd (Sp.oL (Sp.ml x y) n); omega) (by have := Sp.qn_bd (Sp.oL (Sp.ml x y) n); omega) (by have := Sp.qd_bd (Sp.oL (Sp.ml x y) n); omega) (by have := Sp.qd_bd (Sp.oL (Sp.ml x y) n); omega) (Sp.qn (Sp.oH (Sp.mh x y) n)) (Sp.qd (Sp.oH (Sp.mh x y) n)) (by have := Sp.qn_bd (Sp.oH (Sp.mh x y) n); omega) (by have := Sp.qn_bd (Sp.oH (Sp.mh x y) n); omega) (by have := Sp.qd_bd (Sp.oH (Sp.mh x y) n); omega) (by have := Sp.qd_bd (Sp.oH (Sp.mh x y) n); omega) n (by omega) (by omega) (by omega) (by omega) (show Sp.fitq ((Sp.sl (Sp.qn (Sp.oL (Sp.ml x y) n)) (Sp.qd (Sp.oL (Sp.ml x y) n)) (Sp.qn (Sp.oH (Sp.mh x y) n)) (Sp.qd (Sp.oH (Sp.mh x y) n))) * ((n : Int) : Rat)) = true from (by rw [(Sp.sl_told (p := Sp.oL (Sp.ml x y) n) (q := Sp.oH (Sp.mh x y) n) (Sp.bd_fit (Sp.oL_bd (Sp.ml_bd x y) (by omega) (by omega)) (by decide) (by decide)) (Sp.bd_fit (Sp.oH_bd (Sp.mh_bd x y) (by omega) (by omega)) (by decide) (by decide)) (Rat.le_trans (Sp.oL_le (by omega)) (Rat.le_trans (Sp.ml_le x y) (Sp.oH_ge (by omega))))).1]; exact (Sp.bd_fit (Sp.Bd.mul (Sp.oL_bd (Sp.ml_bd x y) (by omega) (by omega)) (Sp.den_bd (n := n) (by omega) (by omega))) (by decide) (by decide)))) (show Sp.fitq ((-(Sp.sh (Sp.qn (Sp.oL (Sp.ml x y) n)) (Sp.qd (Sp.oL (Sp.ml x y) n)) (Sp.qn (Sp.oH (Sp.mh x y) n)) (Sp.qd (Sp.oH (Sp.mh x y) n)))) * ((n : Int) : Rat)) = true from (by rw [(Sp.sl_told (p := Sp.oL (Sp.ml x y) n) (q := Sp.oH (Sp.mh x y) n) (Sp.bd_fit (Sp.oL_bd (Sp.ml_bd x y) (by omega) (by omega)) (by decide) (by decide)) (Sp.bd_fit (Sp.oH_bd (Sp.mh_bd x y) (by omega) (by omega)) (by decide) (by decide)) (Rat.le_trans (Sp.oL_le (by omega)) (Rat.le_trans (Sp.ml_le x y) (Sp.oH_ge (by omega))))).2]; exact (Sp.bd_fit (Sp.Bd.mul (Sp.Bd.neg (Sp.oH_bd (Sp.mh_bd x y) (by omega) (by omega))) (Sp.den_bd (n := n) (by omega) (by omega))) (by decide) (by decide)))); rw [(Sp.sl_told (p := Sp.oL (Sp.ml x y) n) (q := Sp.oH (Sp.mh x y) n) (Sp.bd_fit (Sp.oL_bd (Sp.ml_bd x y) (by omega) (by omega)) (by decide) (by decide)) (Sp.bd_fit (Sp.oH_bd (Sp.mh_bd x y) (by omega) (by omega)) (by decide) (by decide)) (Rat.le_trans (Sp.oL_le (by omega)) (Rat.le_trans (Sp.ml_le x y) (Sp.oH_ge (by omega))))).1, (Sp.sl_told (p := Sp.oL (Sp.ml x y) n) (q := Sp.oH (Sp.mh x y) n) (Sp.bd_fit (Sp.oL_bd (Sp.ml_bd x y) (by omega) (by omega)) (by decide) (by decide)) (Sp.bd_fit (Sp.oH_bd (Sp.mh_bd x y) (by omega) (by omega)) (by decide) (by decide)) (Rat.le_trans (Sp.oL_le (by omega)) (Rat.le_trans (Sp.ml_le x y) (Sp.oH_ge (by omega))))).2, (Sp.dv_yes (a := ((Rat.floor ((Sp.oL (Sp.ml x y) n) * ((n : Int) : Rat)) : Int) : Rat)) (Sp.cast_ne1 (n := n) (by omega))).1, (Sp.dv_yes (a := ((Rat.floor ((Sp.oL (Sp.ml x y) n) * ((n : Int) : Rat)) : Int) : Rat)) (Sp.cast_ne1 (n := n) (by omega))).2.1, (Sp.dv_yes (a := ((-Rat.floor ((-(Sp.oH (Sp.mh x y) n)) * ((n : Int) : Rat)) : Int) : Rat)) (Sp.cast_ne1 (n := n) (by omega))).1, (Sp.dv_yes (a := ((-Rat.floor ((-(Sp.oH (Sp.mh x y) n)) * ((n : Int) : Rat)) : Int) : Rat)) (Sp.cast_ne1 (n := n) (by omega))).2.1] at h; exact h))) <|
    .a 6 5 <| .nil _ _) ?_
  refine aw_p 511 (
    .a 4 6 <|
    .p (does_c ((by have h := fsub_ok (Sp.qn (Sp.ml x y)) (Sp.qd (Sp.ml x y)) (by have := Sp.qn_bd (Sp.ml x y); omega) (by have := Sp.qn_bd (Sp.ml x y); omega) (by have := Sp.qd_bd (Sp.ml x y); omega) (by have := Sp.qd_bd (Sp.ml x y); omega) (Sp.qn (Sp.oL (Sp.ml x y) n)) (Sp.qd (Sp.oL (Sp.ml x y) n)) (by have := Sp.qn_bd (Sp.oL (Sp.ml x y) n); omega) (by have := Sp.qn_bd (Sp.oL (Sp.ml x y) n); omega) (by have := Sp.qd_bd (Sp.oL (Sp.ml x y) n); omega) (by have := Sp.qd_bd (Sp.oL (Sp.ml x y) n); omega); rw [(Sp.rv_fit (q := (Sp.ml x y)) (Sp.bd_fit (Sp.ml_bd x y) (by decide) (by decide))), (Sp.rv_fit (q := (Sp.oL (Sp.ml x y) n)) (Sp.bd_fit (Sp.oL_bd (Sp.ml_bd x y) (by omega) (by omega)) (by decide) (by decide))), (Sp.qe_fit (q := ((Sp.ml x y) + (-(Sp.oL (Sp.ml x y) n)))) (Sp.bd_fit (Sp.Bd.add (Sp.ml_bd x y) (Sp.Bd.neg (Sp.oL_bd (Sp.ml_bd x y) (by omega) (by omega)))) (by decide) (by decide)))] at h; exact h))) <|
    .a 6 6 <| .nil _ _) ?_
  refine aw_p 1023 (
    .a 4 7 <|
    .p (does_c ((by have h := fsub_ok (Sp.qn (Sp.oH (Sp.mh x y) n)) (Sp.qd (Sp.oH (Sp.mh x y) n)) (by have := Sp.qn_bd (Sp.oH (Sp.mh x y) n); omega) (by have := Sp.qn_bd (Sp.oH (Sp.mh x y) n); omega) (by have := Sp.qd_bd (Sp.oH (Sp.mh x y) n); omega) (by have := Sp.qd_bd (Sp.oH (Sp.mh x y) n); omega) (Sp.qn (Sp.mh x y)) (Sp.qd (Sp.mh x y)) (by have := Sp.qn_bd (Sp.mh x y); omega) (by have := Sp.qn_bd (Sp.mh x y); omega) (by have := Sp.qd_bd (Sp.mh x y); omega) (by have := Sp.qd_bd (Sp.mh x y); omega); rw [(Sp.rv_fit (q := (Sp.oH (Sp.mh x y) n)) (Sp.bd_fit (Sp.oH_bd (Sp.mh_bd x y) (by omega) (by omega)) (by decide) (by decide))), (Sp.rv_fit (q := (Sp.mh x y)) (Sp.bd_fit (Sp.mh_bd x y) (by decide) (by decide))), (Sp.qe_fit (q := ((Sp.oH (Sp.mh x y) n) + (-(Sp.mh x y)))) (Sp.bd_fit (Sp.Bd.add (Sp.oH_bd (Sp.mh_bd x y) (by omega) (by omega)) (Sp.Bd.neg (Sp.mh_bd x y))) (by decide) (by decide)))] at h; exact h))) <|
    .a 6 7 <| .nil _ _) ?_
  refine aw_p 2047 (
    .a 1 8 <|
    .p (does_c ((by have h := fmake_ok 1 n (by decide) (by decide) (by omega) (by omega); rw [(Sp.dv_yes (a := ((1 : Int) : Rat)) (Sp.cast_ne1 (n := n) (by omega))).1, (Sp.dv_yes (a := ((1 : Int) : Rat)) (Sp.cast_ne1 (n := n) (by omega))).2.1, (Sp.dv_yes (a := ((1 : Int) : Rat)) (Sp.cast_ne1 (n := n) (by omega))).2.2, (Sp.qe_fit (q := ((1 : Int) : Rat) / ((n : Int) : Rat)) (Sp.bd_fit (Sp.Bd.div (Sp.Bd.int 1) (Sp.den_bd (n := n) (by omega) (by omega)) (Sp.cast_ne1 (n := n) (by omega))) (by decide) (by decide)))] at h; exact h))) <|
    .a 6 8 <| .nil _ _) ?_
  refine aw_sq 4094 4095 ?_
  refine aw_p 8189 (
    .a 9 9 <| .nil _ _) ?_
  refine aw_bl 0 16379 ?_
  refine aw_lp 32759 ?_
  refine al_round ?_
  refine aw_p 65519 (
    .a 1 10 <| .nil _ _) ?_
  refine aw_sq 131038 131039 ?_
  refine aw_tr 262076 ?_
  refine aw_sk ?_
  refine then_normal ?_
  refine aw_sq 262078 262079 ?_
  refine aw_bl 1 524157 ?_
  refine aw_p 1048315 (
    .a 3 10 <| .nil _ _) ?_
  refine aw_p 2096631 (
    .a 2 10 <| .nil _ _) ?_
  refine aw_fl 4193263 ?_
  refine aw_sk ?_
  refine block_normal ?_
  refine then_normal ?_
  refine aw_p1 (
    .a 2 10 <| .nil _ _) ?_
  refine then_normal ?_
  refine al_round ?_
  refine aw_p 65519 (
    .a 1 10 <| .nil _ _) ?_
  refine aw_sq 131038 131039 ?_
  refine aw_tr 262076 ?_
  refine aw_sk ?_
  refine then_normal ?_
  refine aw_sq 262078 262079 ?_
  refine aw_bl 1 524157 ?_
  refine aw_p 1048315 (
    .a 3 10 <| .nil _ _) ?_
  refine aw_p 2096631 (
    .a 2 10 <| .nil _ _) ?_
  refine aw_fl 4193263 ?_
  refine aw_sk ?_
  refine block_normal ?_
  refine then_normal ?_
  refine aw_p1 (
    .a 2 10 <| .nil _ _) ?_
  refine then_normal ?_
  refine al_round ?_
  refine aw_p 65519 (
    .a 1 10 <| .nil _ _) ?_
  refine aw_sq 131038 131039 ?_
  refine aw_tr 262076 ?_
  refine aw_sk ?_
  refine then_normal ?_
  refine aw_sq 262078 262079 ?_
  refine aw_bl 1 524157 ?_
  refine aw_p 1048315 (
    .a 3 10 <| .nil _ _) ?_
  refine aw_p 2096631 (
    .a 2 10 <| .nil _ _) ?_
  refine aw_fl 4193263 ?_
  refine aw_sk ?_
  refine block_normal ?_
  refine then_normal ?_
  refine aw_p1 (
    .a 2 10 <| .nil _ _) ?_
  refine then_normal ?_
  refine al_round ?_
  refine aw_p 65519 (
    .a 1 10 <| .nil _ _) ?_
  refine aw_sq 131038 131039 ?_
  refine aw_tr 262076 ?_
  refine aw_sk ?_
  refine then_normal ?_
  refine aw_sq 262078 262079 ?_
  refine aw_bl 1 524157 ?_
  refine aw_p 1048315 (
    .a 3 10 <| .nil _ _) ?_
  refine aw_p 2096631 (
    .a 2 10 <| .nil _ _) ?_
  refine aw_fl 4193263 ?_
  refine aw_sk ?_
  refine block_normal ?_
  refine then_normal ?_
  refine aw_p1 (
    .a 2 10 <| .nil _ _) ?_
  refine then_normal ?_
  refine al_round ?_
  refine aw_p 65519 (
    .a 1 10 <| .nil _ _) ?_
  refine aw_sq 131038 131039 ?_
  refine aw_tr 262076 ?_
  refine aw_sk ?_
  refine then_normal ?_
  refine aw_sq 262078 262079 ?_
  refine aw_bl 1 524157 ?_
  refine aw_p 1048315 (
    .a 3 10 <| .nil _ _) ?_
  refine aw_p 2096631 (
    .a 2 10 <| .nil _ _) ?_
  refine aw_fl 4193263 ?_
  refine aw_sk ?_
  refine block_normal ?_
  refine then_normal ?_
  refine aw_p1 (
    .a 2 10 <| .nil _ _) ?_
  refine then_normal ?_
  refine al_round ?_
  refine aw_p 65519 (
    .a 1 10 <| .nil _ _) ?_
  refine aw_sq 131038 131039 ?_
  refine aw_tr 262076 ?_
  refine aw_sk ?_
  refine then_normal ?_
  refine aw_sq 262078 262079 ?_
  refine aw_bl 1 524157 ?_
  refine aw_p 1048315 (
    .a 3 10 <| .nil _ _) ?_
  refine aw_p 2096631 (
    .a 2 10 <| .nil _ _) ?_
  refine aw_fl 4193263 ?_
  refine aw_sk ?_
  refine block_normal ?_
  refine then_normal ?_
  refine aw_p1 (
    .a 2 10 <| .nil _ _) ?_
  refine then_normal ?_
  refine al_round ?_
  refine aw_p 65519 (
    .a 1 10 <| .nil _ _) ?_
  refine aw_sq 131038 131039 ?_
  refine aw_fl 262077 ?_
  refine aw_ex 0 ?_
  refine then_exit ?_
  refine then_exit ?_
  refine block_exit ?_
  refine then_normal ?_
  refine aw_d 8191 (
    .a 2 10 <|
    .p (does_c ((by have h := smeet_ok (Sp.qn (Sp.ml x y)) (Sp.qd (Sp.ml x y)) (by have := Sp.qn_bd (Sp.ml x y); omega) (by have := Sp.qn_bd (Sp.ml x y); omega) (by have := Sp.qd_bd (Sp.ml x y); omega) (by have := Sp.qd_bd (Sp.ml x y); omega) (Sp.qn (Sp.mh x y)) (Sp.qd (Sp.mh x y)) (by have := Sp.qn_bd (Sp.mh x y); omega) (by have := Sp.qn_bd (Sp.mh x y); omega) (by have := Sp.qd_bd (Sp.mh x y); omega) (by have := Sp.qd_bd (Sp.mh x y); omega) (Sp.qn (Sp.ml u v)) (Sp.qd (Sp.ml u v)) (by have := Sp.qn_bd (Sp.ml u v); omega) (by have := Sp.qn_bd (Sp.ml u v); omega) (by have := Sp.qd_bd (Sp.ml u v); omega) (by have := Sp.qd_bd (Sp.ml u v); omega) (Sp.qn (Sp.mh u v)) (Sp.qd (Sp.mh u v)) (by have := Sp.qn_bd (Sp.mh u v); omega) (by have := Sp.qn_bd (Sp.mh u v); omega) (by have := Sp.qd_bd (Sp.mh u v); omega) (by have := Sp.qd_bd (Sp.mh u v); omega); rw [(Sp.sl_told (p := Sp.ml x y) (q := Sp.mh x y) (Sp.bd_fit (Sp.ml_bd x y) (by decide) (by decide)) (Sp.bd_fit (Sp.mh_bd x y) (by decide) (by decide)) (Sp.ml_le x y)).1, (Sp.sl_told (p := Sp.ml x y) (q := Sp.mh x y) (Sp.bd_fit (Sp.ml_bd x y) (by decide) (by decide)) (Sp.bd_fit (Sp.mh_bd x y) (by decide) (by decide)) (Sp.ml_le x y)).2, (Sp.sl_told (p := Sp.ml u v) (q := Sp.mh u v) (Sp.bd_fit (Sp.ml_bd u v) (by decide) (by decide)) (Sp.bd_fit (Sp.mh_bd u v) (by decide) (by decide)) (Sp.ml_le u v)).1, (Sp.sl_told (p := Sp.ml u v) (q := Sp.mh u v) (Sp.bd_fit (Sp.ml_bd u v) (by decide) (by decide)) (Sp.bd_fit (Sp.mh_bd u v) (by decide) (by decide)) (Sp.ml_le u v)).2] at h; exact h))) <|
    .a 1 10 <| .p (does_c (fof_ok 0)) <|
    .p (does_c ((by have h := shas_ok (Sp.qn ((Sp.ml x y) + (-(Sp.mh u v)))) (Sp.qd ((Sp.ml x y) + (-(Sp.mh u v)))) (by have := Sp.qn_bd ((Sp.ml x y) + (-(Sp.mh u v))); omega) (by have := Sp.qn_bd ((Sp.ml x y) + (-(Sp.mh u v))); omega) (by have := Sp.qd_bd ((Sp.ml x y) + (-(Sp.mh u v))); omega) (by have := Sp.qd_bd ((Sp.ml x y) + (-(Sp.mh u v))); omega) (Sp.qn ((Sp.mh x y) + (-(Sp.ml u v)))) (Sp.qd ((Sp.mh x y) + (-(Sp.ml u v)))) (by have := Sp.qn_bd ((Sp.mh x y) + (-(Sp.ml u v))); omega) (by have := Sp.qn_bd ((Sp.mh x y) + (-(Sp.ml u v))); omega) (by have := Sp.qd_bd ((Sp.mh x y) + (-(Sp.ml u v))); omega) (by have := Sp.qd_bd ((Sp.mh x y) + (-(Sp.ml u v))); omega) 0 1 (by decide) (by decide) (by decide) (by decide); rw [(Sp.sl_told (p := (Sp.ml x y) + (-(Sp.mh u v))) (q := (Sp.mh x y) + (-(Sp.ml u v))) (Sp.bd_fit (Sp.Bd.add (Sp.ml_bd x y) (Sp.Bd.neg (Sp.mh_bd u v))) (by decide) (by decide)) (Sp.bd_fit (Sp.Bd.add (Sp.mh_bd x y) (Sp.Bd.neg (Sp.ml_bd u v))) (by decide) (by decide)) (Sp.radd_le (Sp.ml_le x y) (Rat.neg_le_neg (Sp.ml_le u v)))).1, (Sp.sl_told (p := (Sp.ml x y) + (-(Sp.mh u v))) (q := (Sp.mh x y) + (-(Sp.ml u v))) (Sp.bd_fit (Sp.Bd.add (Sp.ml_bd x y) (Sp.Bd.neg (Sp.mh_bd u v))) (by decide) (by decide)) (Sp.bd_fit (Sp.Bd.add (Sp.mh_bd x y) (Sp.Bd.neg (Sp.ml_bd u v))) (by decide) (by decide)) (Sp.radd_le (Sp.ml_le x y) (Rat.neg_le_neg (Sp.ml_le u v)))).2, (Sp.rv_int 0 (by decide))] at h; exact h))) <|
    .p (does_b true ((show ((Sp.meetS (Sp.ml x y) (Sp.mh x y) (Sp.ml u v) (Sp.mh u v)) == (Sp.inS ((Sp.ml x y) + (-(Sp.mh u v))) ((Sp.mh x y) + (-(Sp.ml u v))) ((0 : Int) : Rat))) = true from (by rw [beq_iff_eq]; exact Sp.meet_sub _ _ _ _)))) <| .a 3 10 <|
    .p (does_c ((by have h := smeet_ok (Sp.qn (Sp.ml x y)) (Sp.qd (Sp.ml x y)) (by have := Sp.qn_bd (Sp.ml x y); omega) (by have := Sp.qn_bd (Sp.ml x y); omega) (by have := Sp.qd_bd (Sp.ml x y); omega) (by have := Sp.qd_bd (Sp.ml x y); omega) (Sp.qn (Sp.mh x y)) (Sp.qd (Sp.mh x y)) (by have := Sp.qn_bd (Sp.mh x y); omega) (by have := Sp.qn_bd (Sp.mh x y); omega) (by have := Sp.qd_bd (Sp.mh x y); omega) (by have := Sp.qd_bd (Sp.mh x y); omega) (Sp.qn (Sp.ml u v)) (Sp.qd (Sp.ml u v)) (by have := Sp.qn_bd (Sp.ml u v); omega) (by have := Sp.qn_bd (Sp.ml u v); omega) (by have := Sp.qd_bd (Sp.ml u v); omega) (by have := Sp.qd_bd (Sp.ml u v); omega) (Sp.qn (Sp.mh u v)) (Sp.qd (Sp.mh u v)) (by have := Sp.qn_bd (Sp.mh u v); omega) (by have := Sp.qn_bd (Sp.mh u v); omega) (by have := Sp.qd_bd (Sp.mh u v); omega) (by have := Sp.qd_bd (Sp.mh u v); omega); rw [(Sp.sl_told (p := Sp.ml x y) (q := Sp.mh x y) (Sp.bd_fit (Sp.ml_bd x y) (by decide) (by decide)) (Sp.bd_fit (Sp.mh_bd x y) (by decide) (by decide)) (Sp.ml_le x y)).1, (Sp.sl_told (p := Sp.ml x y) (q := Sp.mh x y) (Sp.bd_fit (Sp.ml_bd x y) (by decide) (by decide)) (Sp.bd_fit (Sp.mh_bd x y) (by decide) (by decide)) (Sp.ml_le x y)).2, (Sp.sl_told (p := Sp.ml u v) (q := Sp.mh u v) (Sp.bd_fit (Sp.ml_bd u v) (by decide) (by decide)) (Sp.bd_fit (Sp.mh_bd u v) (by decide) (by decide)) (Sp.ml_le u v)).1, (Sp.sl_told (p := Sp.ml u v) (q := Sp.mh u v) (Sp.bd_fit (Sp.ml_bd u v) (by decide) (by decide)) (Sp.bd_fit (Sp.mh_bd u v) (by decide) (by decide)) (Sp.ml_le u v)).2] at h; exact h))) <|
    .a 2 10 <|
    .p (does_c ((by have h := smeet_ok (Sp.qn (Sp.ml u v)) (Sp.qd (Sp.ml u v)) (by have := Sp.qn_bd (Sp.ml u v); omega) (by have := Sp.qn_bd (Sp.ml u v); omega) (by have := Sp.qd_bd (Sp.ml u v); omega) (by have := Sp.qd_bd (Sp.ml u v); omega) (Sp.qn (Sp.mh u v)) (Sp.qd (Sp.mh u v)) (by have := Sp.qn_bd (Sp.mh u v); omega) (by have := Sp.qn_bd (Sp.mh u v); omega) (by have := Sp.qd_bd (Sp.mh u v); omega) (by have := Sp.qd_bd (Sp.mh u v); omega) (Sp.qn (Sp.ml x y)) (Sp.qd (Sp.ml x y)) (by have := Sp.qn_bd (Sp.ml x y); omega) (by have := Sp.qn_bd (Sp.ml x y); omega) (by have := Sp.qd_bd (Sp.ml x y); omega) (by have := Sp.qd_bd (Sp.ml x y); omega) (Sp.qn (Sp.mh x y)) (Sp.qd (Sp.mh x y)) (by have := Sp.qn_bd (Sp.mh x y); omega) (by have := Sp.qn_bd (Sp.mh x y); omega) (by have := Sp.qd_bd (Sp.mh x y); omega) (by have := Sp.qd_bd (Sp.mh x y); omega); rw [(Sp.sl_told (p := Sp.ml u v) (q := Sp.mh u v) (Sp.bd_fit (Sp.ml_bd u v) (by decide) (by decide)) (Sp.bd_fit (Sp.mh_bd u v) (by decide) (by decide)) (Sp.ml_le u v)).1, (Sp.sl_told (p := Sp.ml u v) (q := Sp.mh u v) (Sp.bd_fit (Sp.ml_bd u v) (by decide) (by decide)) (Sp.bd_fit (Sp.mh_bd u v) (by decide) (by decide)) (Sp.ml_le u v)).2, (Sp.sl_told (p := Sp.ml x y) (q := Sp.mh x y) (Sp.bd_fit (Sp.ml_bd x y) (by decide) (by decide)) (Sp.bd_fit (Sp.mh_bd x y) (by decide) (by decide)) (Sp.ml_le x y)).1, (Sp.sl_told (p := Sp.ml x y) (q := Sp.mh x y) (Sp.bd_fit (Sp.ml_bd x y) (by decide) (by decide)) (Sp.bd_fit (Sp.mh_bd x y) (by decide) (by decide)) (Sp.ml_le x y)).2] at h; exact h))) <|
    .p (does_b true ((show ((Sp.meetS (Sp.ml x y) (Sp.mh x y) (Sp.ml u v) (Sp.mh u v)) == (Sp.meetS (Sp.ml u v) (Sp.mh u v) (Sp.ml x y) (Sp.mh x y))) = true from (by rw [beq_iff_eq]; exact Sp.meet_comm _ _ _ _)))) <| .a 4 10 <|
    .p (does_e true ((show ((((Sp.qn (Sp.oL (Sp.oL (Sp.ml x y) n) n)) == (Sp.qn (Sp.oL (Sp.ml x y) n))) && (((Sp.qd (Sp.oL (Sp.oL (Sp.ml x y) n) n)) == (Sp.qd (Sp.oL (Sp.ml x y) n))) && true)) && ((((Sp.qn (Sp.oH (Sp.oH (Sp.mh x y) n) n)) == (Sp.qn (Sp.oH (Sp.mh x y) n))) && (((Sp.qd (Sp.oH (Sp.oH (Sp.mh x y) n) n)) == (Sp.qd (Sp.oH (Sp.mh x y) n))) && true)) && true)) = true from (by have qq0 : (Sp.oL (Sp.oL (Sp.ml x y) n) n) = (Sp.oL (Sp.ml x y) n) := (by exact Sp.oL_idem (by omega)); rw [qq0]; have qq2 : (Sp.oH (Sp.oH (Sp.mh x y) n) n) = (Sp.oH (Sp.mh x y) n) := (by exact Sp.oH_idem (by omega)); rw [qq2]; first | (simp; done) | decide | decide +kernel)))) <|
    .a 4 10 <|
    .p (does_c ((by have h := fcmp_ok (Sp.qn ((Sp.ml x y) + (-(Sp.oL (Sp.ml x y) n)))) (Sp.qd ((Sp.ml x y) + (-(Sp.oL (Sp.ml x y) n)))) (by have := Sp.qn_bd ((Sp.ml x y) + (-(Sp.oL (Sp.ml x y) n))); omega) (by have := Sp.qn_bd ((Sp.ml x y) + (-(Sp.oL (Sp.ml x y) n))); omega) (by have := Sp.qd_bd ((Sp.ml x y) + (-(Sp.oL (Sp.ml x y) n))); omega) (by have := Sp.qd_bd ((Sp.ml x y) + (-(Sp.oL (Sp.ml x y) n))); omega) (Sp.qn (((1 : Int) : Rat) / ((n : Int) : Rat))) (Sp.qd (((1 : Int) : Rat) / ((n : Int) : Rat))) (by have := Sp.qn_bd (((1 : Int) : Rat) / ((n : Int) : Rat)); omega) (by have := Sp.qn_bd (((1 : Int) : Rat) / ((n : Int) : Rat)); omega) (by have := Sp.qd_bd (((1 : Int) : Rat) / ((n : Int) : Rat)); omega) (by have := Sp.qd_bd (((1 : Int) : Rat) / ((n : Int) : Rat)); omega); rw [(Sp.rv_fit (q := ((Sp.ml x y) + (-(Sp.oL (Sp.ml x y) n)))) (Sp.bd_fit (Sp.Bd.add (Sp.ml_bd x y) (Sp.Bd.neg (Sp.oL_bd (Sp.ml_bd x y) (by omega) (by omega)))) (by decide) (by decide))), (Sp.rv_fit (q := (((1 : Int) : Rat) / ((n : Int) : Rat))) (Sp.bd_fit (Sp.Bd.div (Sp.Bd.int 1) (Sp.den_bd (n := n) (by omega) (by omega)) (Sp.cast_ne1 (n := n) (by omega))) (by decide) (by decide)))] at h; exact h))) <|
    .p (does_b true (((Sp.rcmp_neg ((Sp.ml x y) + (-(Sp.oL (Sp.ml x y) n))) (((1 : Int) : Rat) / ((n : Int) : Rat)))).trans ((show (decide (((Sp.ml x y) + (-(Sp.oL (Sp.ml x y) n))) < (((1 : Int) : Rat) / ((n : Int) : Rat)))) = true from decide_eq_true (Sp.oL_lt (by omega)))))) <| .a 4 10 <|
    .p (does_c ((by have h := fcmp_ok (Sp.qn ((Sp.oH (Sp.mh x y) n) + (-(Sp.mh x y)))) (Sp.qd ((Sp.oH (Sp.mh x y) n) + (-(Sp.mh x y)))) (by have := Sp.qn_bd ((Sp.oH (Sp.mh x y) n) + (-(Sp.mh x y))); omega) (by have := Sp.qn_bd ((Sp.oH (Sp.mh x y) n) + (-(Sp.mh x y))); omega) (by have := Sp.qd_bd ((Sp.oH (Sp.mh x y) n) + (-(Sp.mh x y))); omega) (by have := Sp.qd_bd ((Sp.oH (Sp.mh x y) n) + (-(Sp.mh x y))); omega) (Sp.qn (((1 : Int) : Rat) / ((n : Int) : Rat))) (Sp.qd (((1 : Int) : Rat) / ((n : Int) : Rat))) (by have := Sp.qn_bd (((1 : Int) : Rat) / ((n : Int) : Rat)); omega) (by have := Sp.qn_bd (((1 : Int) : Rat) / ((n : Int) : Rat)); omega) (by have := Sp.qd_bd (((1 : Int) : Rat) / ((n : Int) : Rat)); omega) (by have := Sp.qd_bd (((1 : Int) : Rat) / ((n : Int) : Rat)); omega); rw [(Sp.rv_fit (q := ((Sp.oH (Sp.mh x y) n) + (-(Sp.mh x y)))) (Sp.bd_fit (Sp.Bd.add (Sp.oH_bd (Sp.mh_bd x y) (by omega) (by omega)) (Sp.Bd.neg (Sp.mh_bd x y))) (by decide) (by decide))), (Sp.rv_fit (q := (((1 : Int) : Rat) / ((n : Int) : Rat))) (Sp.bd_fit (Sp.Bd.div (Sp.Bd.int 1) (Sp.den_bd (n := n) (by omega) (by omega)) (Sp.cast_ne1 (n := n) (by omega))) (by decide) (by decide)))] at h; exact h))) <|
    .p (does_b true (((Sp.rcmp_neg ((Sp.oH (Sp.mh x y) n) + (-(Sp.mh x y))) (((1 : Int) : Rat) / ((n : Int) : Rat)))).trans ((show (decide (((Sp.oH (Sp.mh x y) n) + (-(Sp.mh x y))) < (((1 : Int) : Rat) / ((n : Int) : Rat)))) = true from decide_eq_true (Sp.oH_lt (by omega)))))) <| .a 4 10 <|
    .p (does_c ((by have h := sjoin_ok (Sp.qn (Sp.ml x y)) (Sp.qd (Sp.ml x y)) (by have := Sp.qn_bd (Sp.ml x y); omega) (by have := Sp.qn_bd (Sp.ml x y); omega) (by have := Sp.qd_bd (Sp.ml x y); omega) (by have := Sp.qd_bd (Sp.ml x y); omega) (Sp.qn (Sp.mh x y)) (Sp.qd (Sp.mh x y)) (by have := Sp.qn_bd (Sp.mh x y); omega) (by have := Sp.qn_bd (Sp.mh x y); omega) (by have := Sp.qd_bd (Sp.mh x y); omega) (by have := Sp.qd_bd (Sp.mh x y); omega) (Sp.qn (Sp.ml u v)) (Sp.qd (Sp.ml u v)) (by have := Sp.qn_bd (Sp.ml u v); omega) (by have := Sp.qn_bd (Sp.ml u v); omega) (by have := Sp.qd_bd (Sp.ml u v); omega) (by have := Sp.qd_bd (Sp.ml u v); omega) (Sp.qn (Sp.mh u v)) (Sp.qd (Sp.mh u v)) (by have := Sp.qn_bd (Sp.mh u v); omega) (by have := Sp.qn_bd (Sp.mh u v); omega) (by have := Sp.qd_bd (Sp.mh u v); omega) (by have := Sp.qd_bd (Sp.mh u v); omega); rw [(Sp.sl_told (p := Sp.ml x y) (q := Sp.mh x y) (Sp.bd_fit (Sp.ml_bd x y) (by decide) (by decide)) (Sp.bd_fit (Sp.mh_bd x y) (by decide) (by decide)) (Sp.ml_le x y)).1, (Sp.sl_told (p := Sp.ml x y) (q := Sp.mh x y) (Sp.bd_fit (Sp.ml_bd x y) (by decide) (by decide)) (Sp.bd_fit (Sp.mh_bd x y) (by decide) (by decide)) (Sp.ml_le x y)).2, (Sp.sl_told (p := Sp.ml u v) (q := Sp.mh u v) (Sp.bd_fit (Sp.ml_bd u v) (by decide) (by decide)) (Sp.bd_fit (Sp.mh_bd u v) (by decide) (by decide)) (Sp.ml_le u v)).1, (Sp.sl_told (p := Sp.ml u v) (q := Sp.mh u v) (Sp.bd_fit (Sp.ml_bd u v) (by decide) (by decide)) (Sp.bd_fit (Sp.mh_bd u v) (by decide) (by decide)) (Sp.ml_le u v)).2] at h; exact h))) <|
    .a 2 10 <|
    .p (does_c ((by have h := sjoin_ok (Sp.qn (Sp.ml u v)) (Sp.qd (Sp.ml u v)) (by have := Sp.qn_bd (Sp.ml u v); omega) (by have := Sp.qn_bd (Sp.ml u v); omega) (by have := Sp.qd_bd (Sp.ml u v); omega) (by have := Sp.qd_bd (Sp.ml u v); omega) (Sp.qn (Sp.mh u v)) (Sp.qd (Sp.mh u v)) (by have := Sp.qn_bd (Sp.mh u v); omega) (by have := Sp.qn_bd (Sp.mh u v); omega) (by have := Sp.qd_bd (Sp.mh u v); omega) (by have := Sp.qd_bd (Sp.mh u v); omega) (Sp.qn (Sp.ml x y)) (Sp.qd (Sp.ml x y)) (by have := Sp.qn_bd (Sp.ml x y); omega) (by have := Sp.qn_bd (Sp.ml x y); omega) (by have := Sp.qd_bd (Sp.ml x y); omega) (by have := Sp.qd_bd (Sp.ml x y); omega) (Sp.qn (Sp.mh x y)) (Sp.qd (Sp.mh x y)) (by have := Sp.qn_bd (Sp.mh x y); omega) (by have := Sp.qn_bd (Sp.mh x y); omega) (by have := Sp.qd_bd (Sp.mh x y); omega) (by have := Sp.qd_bd (Sp.mh x y); omega); rw [(Sp.sl_told (p := Sp.ml u v) (q := Sp.mh u v) (Sp.bd_fit (Sp.ml_bd u v) (by decide) (by decide)) (Sp.bd_fit (Sp.mh_bd u v) (by decide) (by decide)) (Sp.ml_le u v)).1, (Sp.sl_told (p := Sp.ml u v) (q := Sp.mh u v) (Sp.bd_fit (Sp.ml_bd u v) (by decide) (by decide)) (Sp.bd_fit (Sp.mh_bd u v) (by decide) (by decide)) (Sp.ml_le u v)).2, (Sp.sl_told (p := Sp.ml x y) (q := Sp.mh x y) (Sp.bd_fit (Sp.ml_bd x y) (by decide) (by decide)) (Sp.bd_fit (Sp.mh_bd x y) (by decide) (by decide)) (Sp.ml_le x y)).1, (Sp.sl_told (p := Sp.ml x y) (q := Sp.mh x y) (Sp.bd_fit (Sp.ml_bd x y) (by decide) (by decide)) (Sp.bd_fit (Sp.mh_bd x y) (by decide) (by decide)) (Sp.ml_le x y)).2] at h; exact h))) <|
    .p (does_e true ((show ((((Sp.qn (Sp.rmin (Sp.ml x y) (Sp.ml u v))) == (Sp.qn (Sp.rmin (Sp.ml u v) (Sp.ml x y)))) && (((Sp.qd (Sp.rmin (Sp.ml x y) (Sp.ml u v))) == (Sp.qd (Sp.rmin (Sp.ml u v) (Sp.ml x y)))) && true)) && ((((Sp.qn (Sp.rmax (Sp.mh x y) (Sp.mh u v))) == (Sp.qn (Sp.rmax (Sp.mh u v) (Sp.mh x y)))) && (((Sp.qd (Sp.rmax (Sp.mh x y) (Sp.mh u v))) == (Sp.qd (Sp.rmax (Sp.mh u v) (Sp.mh x y)))) && true)) && true)) = true from (by have qq0 : (Sp.rmin (Sp.ml x y) (Sp.ml u v)) = (Sp.rmin (Sp.ml u v) (Sp.ml x y)) := (by exact Sp.rmin_comm _ _); rw [qq0]; have qq2 : (Sp.rmax (Sp.mh x y) (Sp.mh u v)) = (Sp.rmax (Sp.mh u v) (Sp.mh x y)) := (by exact Sp.rmax_comm _ _); rw [qq2]; first | (simp; done) | decide | decide +kernel)))) <|
    .a 2 10 <| .nil _ _) ?_
  refine aw_rt ?_
  exact en_ret [.bool true] (by kernel_rfl)


end Go.Proofs.Ythflpnpnlpaigaa.Am
