/-
  The walks of the common point.
-/
import Derived.Test.YtigllakcfdoagaaProg
import Derived.Test.YtigllakcfdoagaaAm16
import Derived.Test.YtigllakcfdoagaaSg3
import Derived.Test.YtigllakcfdoagaaFr4
import Derived.Test.YtigllakcfdoagaaNc7
import Derived.Test.YtigllakcfdoagaaSq6
namespace Go.Proofs.Ytigllakcfdoagaa.Am
open Go Go.Proofs
set_option maxRecDepth 100000
set_option maxHeartbeats 4000000
set_option linter.unusedVariables false
set_option linter.unusedSimpArgs false

theorem segplace_ok (x y : Int) (h1 : -1048576 ≤ x) (h2 : x ≤ 1048576) (h3 : -1048576 ≤ y) (h4 : y ≤ 1048576) :
    AC Try.prog 88 0 ([.agg #[.int .i64 x, .int .i64 y]]) [] (.agg #[.int .i64 x, .int .i64 1, .int .i64 y, .int .i64 1]) [] := by
  refine ac_in Try.func88 (fun w0 W pin => ?_)
  refine aw_p 3 (
    .a 2 1 <| .nil _ _) ?_
  refine aw_d 7 (
    .a 2 3 <| .p (does_c ((by have h := fof_ok x; rw [Sp.mx_id (by omega)] at h; exact h))) <| .a 2 3 <| .p (does_c ((by have h := fof_ok y; rw [Sp.mx_id (by omega)] at h; exact h))) <| .a 2 3 <| .nil _ _) ?_
  refine aw_rt ?_
  exact en_ret [.agg #[.int .i64 x, .int .i64 1, .int .i64 y, .int .i64 1]] (by kernel_rfl)

theorem along_ok (f w n d : Int) (f0 : -1048576 ≤ f) (f1 : f ≤ 1048576) (w0 : -2097152 ≤ w) (w1 : w ≤ 2097152) (n0 : 0 ≤ n) (n1 : n ≤ d) (d0 : 0 < d) (d1 : d ≤ 17592186044416) :
    AC Try.prog 90 0 ([.int .i64 f, .int .i64 w, .int .i64 n, .int .i64 d]) [] (.agg #[.int .i64 (Sp.qn (Sp.alg f w n d)), .int .i64 (Sp.qd (Sp.alg f w n d))]) [] := by
  have mb := Sp.mul_bd (a := w) (b := n) (A := 2097152) (B := 17592186044416) (by omega) (by omega) (by omega) (by omega); have qb := Sp.along_bd n0 n1 d0 w0 w1; have rb := Sp.emod_lt (a := w * n) (b := d) d0; have nz := Sp.ne_rat (d := d) (by omega); have ff := Sp.part_fit (r := w * n % d) (d := d) (by omega) (by omega) (by omega)
  refine ac_in Try.func90 (fun w0 W pin => ?_)
  refine aw_p 3 (
    .a 1 1 <| .nil _ _) ?_
  refine aw_p 7 (
    .a 2 2 <| .p (does_c (wmul_ok w n (by omega) (by omega) (by omega) (by omega))) <| .a 1 2 <| .p (does_c (wdiv_ok (w * n) d (by omega) (by omega) (by omega) (by omega))) <| .a 8 2 <| .nil _ _) ?_
  refine aw_p 15 (
    .a 1 3 <| .p (does_c ((by have h := wshort_ok ((w * n) / d) (by omega) (by omega); rw [(Sp.sh_in (x := (w * n) / d) (Sp.in64_of (by omega) (by omega))).1, (Sp.sh_in (x := (w * n) / d) (Sp.in64_of (by omega) (by omega))).2] at h; exact h))) <| .a 5 3 <| .nil _ _) ?_
  refine aw_p 31 (
    .a 2 3 <|
    .p (does_c ((by have h := fmake_ok ((w * n) % d) d (by omega) (by omega) (by omega) (by omega); rw [(Sp.dv_yes (a := (((w * n) % d : Int) : Rat)) nz).1, (Sp.dv_yes (a := (((w * n) % d : Int) : Rat)) nz).2.1, (Sp.dv_yes (a := (((w * n) % d : Int) : Rat)) nz).2.2, Sp.qe_fit (q := ((((w * n) % d : Int) : Rat) / ((d : Int) : Rat))) ff] at h; exact h))) <|
    .a 6 3 <| .nil _ _) ?_
  refine aw_d 63 (
    .a 2 4 <| .p (does_i (f + ((w * n) / d)) (wrap_i64 (by omega) (by omega)) .i64) <| .p (does_c ((by have h := fof_ok (f + ((w * n) / d)); rw [Sp.mx_id (by omega)] at h; exact h))) <| .a 1 4 <|
    .p (does_c ((by have h := fadd_ok (f + ((w * n) / d)) 1 (by omega) (by omega) (by decide) (by decide) (Sp.qn ((((w * n) % d : Int) : Rat) / ((d : Int) : Rat))) (Sp.qd ((((w * n) % d : Int) : Rat) / ((d : Int) : Rat))) (by have := Sp.qn_bd ((((w * n) % d : Int) : Rat) / ((d : Int) : Rat)); omega) (by have := Sp.qn_bd ((((w * n) % d : Int) : Rat) / ((d : Int) : Rat)); omega) (by have := Sp.qd_bd ((((w * n) % d : Int) : Rat) / ((d : Int) : Rat)); omega) (by have := Sp.qd_bd ((((w * n) % d : Int) : Rat) / ((d : Int) : Rat)); omega); rw [(Sp.rv_int (f + ((w * n) / d)) (by omega)), (Sp.rv_fit (q := ((((w * n) % d : Int) : Rat) / ((d : Int) : Rat))) ff)] at h; exact h))) <|
    .a 6 4 <| .nil _ _) ?_
  refine aw_p 127 (
    .a 2 5 <| .nil _ _) ?_
  refine aw_rt ?_
  exact en_ret [.agg #[.int .i64 (Sp.qn (((f + ((w * n) / d) : Int) : Rat) + ((((w * n) % d : Int) : Rat) / ((d : Int) : Rat)))), .int .i64 (Sp.qd (((f + ((w * n) / d) : Int) : Rat) + ((((w * n) % d : Int) : Rat) / ((d : Int) : Rat))))]] (show (.agg #[.int .i64 (Sp.qn (((f + ((w * n) / d) : Int) : Rat) + ((((w * n) % d : Int) : Rat) / ((d : Int) : Rat)))), .int .i64 (Sp.qd (((f + ((w * n) / d) : Int) : Rat) + ((((w * n) % d : Int) : Rat) / ((d : Int) : Rat))))] : Value) = (.agg #[.int .i64 (Sp.qn (Sp.alg f w n d)), .int .i64 (Sp.qd (Sp.alg f w n d))]) from (congrArg (fun z : List Value => Value.agg z.toArray) (lcons (congrArg (Value.int .i64) (show (Sp.qn (((f + ((w * n) / d) : Int) : Rat) + ((((w * n) % d : Int) : Rat) / ((d : Int) : Rat)))) = (Sp.qn (Sp.alg f w n d)) from by (rw [Sp.alg_split d0]))) (lcons (congrArg (Value.int .i64) (show (Sp.qd (((f + ((w * n) / d) : Int) : Rat) + ((((w * n) % d : Int) : Rat) / ((d : Int) : Rat)))) = (Sp.qd (Sp.alg f w n d)) from by (rw [Sp.alg_split d0]))) rfl))))

theorem segat0_any (ax ay bx b_y cx cy dx dy : Int) (h : Sp.meetN (Sp.lim 1048576 ax) (Sp.lim 1048576 ay) (Sp.lim 1048576 bx) (Sp.lim 1048576 b_y) (Sp.lim 1048576 cx) (Sp.lim 1048576 cy) (Sp.lim 1048576 dx) (Sp.lim 1048576 dy) = 0) :
    AC Try.prog 18 0 ([.agg #[.int .i64 ax, .int .i64 ay], .agg #[.int .i64 bx, .int .i64 b_y], .agg #[.int .i64 cx, .int .i64 cy], .agg #[.int .i64 dx, .int .i64 dy]]) [] (.tuple #[.agg #[.int .i64 0, .int .i64 0, .int .i64 0, .int .i64 0], .int .i64 4]) [] := by
  have qax := Sp.lim_bd (m := 1048576) (by decide) ax; have qay := Sp.lim_bd (m := 1048576) (by decide) ay; have qbx := Sp.lim_bd (m := 1048576) (by decide) bx; have qb_y := Sp.lim_bd (m := 1048576) (by decide) b_y; have qcx := Sp.lim_bd (m := 1048576) (by decide) cx; have qcy := Sp.lim_bd (m := 1048576) (by decide) cy; have qdx := Sp.lim_bd (m := 1048576) (by decide) dx; have qdy := Sp.lim_bd (m := 1048576) (by decide) dy; have c0 := clamp_ok ax ay; have c1 := clamp_ok bx b_y; have c2 := clamp_ok cx cy; have c3 := clamp_ok dx dy; generalize Sp.lim 1048576 ax = AX at *; generalize Sp.lim 1048576 ay = AY at *; generalize Sp.lim 1048576 bx = BX at *; generalize Sp.lim 1048576 b_y = B_Y at *; generalize Sp.lim 1048576 cx = CX at *; generalize Sp.lim 1048576 cy = CY at *; generalize Sp.lim 1048576 dx = DX at *; generalize Sp.lim 1048576 dy = DY at *
  refine ac_in Try.func18 (fun w0 W pin => ?_)
  refine aw_p 3 (
    .a 6 1 <| .nil _ _) ?_
  refine aw_d 7 (
    .a 1 6 <| .p (does_c (c0)) <| .a 1 6 <| .p (does_c (c1)) <| .a 1 6 <| .p (does_c (c2)) <| .a 1 6 <| .p (does_c (c3)) <| .a 4 6 <| .nil _ _) ?_
  refine aw_sq 14 15 ?_
  refine aw_p 29 (
    .a 4 6 <| .p (does_c ((by have q := segmeet_in AX AY BX B_Y CX CY DX DY (by omega) (by omega) (by omega) (by omega) (by omega) (by omega) (by omega) (by omega) (by omega) (by omega) (by omega) (by omega) (by omega) (by omega) (by omega) (by omega); rw [h] at q; exact q))) <| .nil _ _) ?_
  refine aw_bl 0 59 ?_
  refine aw_p 119 (
    .a 2 6 <| .nil _ _) ?_
  refine aw_tr 238 ?_
  refine aw_p 477 (
    .a 3 6 <| .nil _ _) ?_
  refine aw_rt ?_
  refine block_ret ?_
  refine then_ret ?_
  exact en_ret [.agg #[.int .i64 0, .int .i64 0, .int .i64 0, .int .i64 0], .int .i64 4] (by kernel_rfl)

theorem segat2_any (ax ay bx b_y cx cy dx dy : Int) (h : Sp.meetN (Sp.lim 1048576 ax) (Sp.lim 1048576 ay) (Sp.lim 1048576 bx) (Sp.lim 1048576 b_y) (Sp.lim 1048576 cx) (Sp.lim 1048576 cy) (Sp.lim 1048576 dx) (Sp.lim 1048576 dy) = 2) :
    AC Try.prog 18 0 ([.agg #[.int .i64 ax, .int .i64 ay], .agg #[.int .i64 bx, .int .i64 b_y], .agg #[.int .i64 cx, .int .i64 cy], .agg #[.int .i64 dx, .int .i64 dy]]) [] (.tuple #[.agg #[.int .i64 0, .int .i64 0, .int .i64 0, .int .i64 0], .int .i64 10]) [] := by
  have qax := Sp.lim_bd (m := 1048576) (by decide) ax; have qay := Sp.lim_bd (m := 1048576) (by decide) ay; have qbx := Sp.lim_bd (m := 1048576) (by decide) bx; have qb_y := Sp.lim_bd (m := 1048576) (by decide) b_y; have qcx := Sp.lim_bd (m := 1048576) (by decide) cx; have qcy := Sp.lim_bd (m := 1048576) (by decide) cy; have qdx := Sp.lim_bd (m := 1048576) (by decide) dx; have qdy := Sp.lim_bd (m := 1048576) (by decide) dy; have c0 := clamp_ok ax ay; have c1 := clamp_ok bx b_y; have c2 := clamp_ok cx cy; have c3 := clamp_ok dx dy; generalize Sp.lim 1048576 ax = AX at *; generalize Sp.lim 1048576 ay = AY at *; generalize Sp.lim 1048576 bx = BX at *; generalize Sp.lim 1048576 b_y = B_Y at *; generalize Sp.lim 1048576 cx = CX at *; generalize Sp.lim 1048576 cy = CY at *; generalize Sp.lim 1048576 dx = DX at *; generalize Sp.lim 1048576 dy = DY at *
  refine ac_in Try.func18 (fun w0 W pin => ?_)
  refine aw_p 3 (
    .a 6 1 <| .nil _ _) ?_
  refine aw_d 7 (
    .a 1 6 <| .p (does_c (c0)) <| .a 1 6 <| .p (does_c (c1)) <| .a 1 6 <| .p (does_c (c2)) <| .a 1 6 <| .p (does_c (c3)) <| .a 4 6 <| .nil _ _) ?_
  refine aw_sq 14 15 ?_
  refine aw_p 29 (
    .a 4 6 <| .p (does_c ((by have q := segmeet_in AX AY BX B_Y CX CY DX DY (by omega) (by omega) (by omega) (by omega) (by omega) (by omega) (by omega) (by omega) (by omega) (by omega) (by omega) (by omega) (by omega) (by omega) (by omega) (by omega); rw [h] at q; exact q))) <| .nil _ _) ?_
  refine aw_bl 0 59 ?_
  refine aw_p 119 (
    .a 2 6 <| .nil _ _) ?_
  refine aw_fl 239 ?_
  refine aw_p 479 (
    .a 2 6 <| .nil _ _) ?_
  refine aw_tr 958 ?_
  refine aw_p 1917 (
    .a 3 6 <| .nil _ _) ?_
  refine aw_rt ?_
  refine block_ret ?_
  refine then_ret ?_
  exact en_ret [.agg #[.int .i64 0, .int .i64 0, .int .i64 0, .int .i64 0], .int .i64 10] (by kernel_rfl)

theorem segat1_any (ax ay bx b_y cx cy dx dy : Int) (zx zy : Int) (h : Sp.shr (Sp.lim 1048576 ax) (Sp.lim 1048576 ay) (Sp.lim 1048576 bx) (Sp.lim 1048576 b_y) (Sp.lim 1048576 cx) (Sp.lim 1048576 cy) (Sp.lim 1048576 dx) (Sp.lim 1048576 dy) = [(zx, zy)]) :
    AC Try.prog 18 0 ([.agg #[.int .i64 ax, .int .i64 ay], .agg #[.int .i64 bx, .int .i64 b_y], .agg #[.int .i64 cx, .int .i64 cy], .agg #[.int .i64 dx, .int .i64 dy]]) [] (.tuple #[.agg #[.int .i64 zx, .int .i64 1, .int .i64 zy, .int .i64 1], .int .i64 0]) [] := by
  have qax := Sp.lim_bd (m := 1048576) (by decide) ax; have qay := Sp.lim_bd (m := 1048576) (by decide) ay; have qbx := Sp.lim_bd (m := 1048576) (by decide) bx; have qb_y := Sp.lim_bd (m := 1048576) (by decide) b_y; have qcx := Sp.lim_bd (m := 1048576) (by decide) cx; have qcy := Sp.lim_bd (m := 1048576) (by decide) cy; have qdx := Sp.lim_bd (m := 1048576) (by decide) dx; have qdy := Sp.lim_bd (m := 1048576) (by decide) dy; have c0 := clamp_ok ax ay; have c1 := clamp_ok bx b_y; have c2 := clamp_ok cx cy; have c3 := clamp_ok dx dy; generalize Sp.lim 1048576 ax = AX at *; generalize Sp.lim 1048576 ay = AY at *; generalize Sp.lim 1048576 bx = BX at *; generalize Sp.lim 1048576 b_y = B_Y at *; generalize Sp.lim 1048576 cx = CX at *; generalize Sp.lim 1048576 cy = CY at *; generalize Sp.lim 1048576 dx = DX at *; generalize Sp.lim 1048576 dy = DY at *; have zb := Sp.one_bd h (by omega) (by omega) (by omega) (by omega) (by omega) (by omega) (by omega) (by omega) (by omega) (by omega) (by omega) (by omega) (by omega) (by omega) (by omega) (by omega)
  refine ac_in Try.func18 (fun w0 W pin => ?_)
  refine aw_p 3 (
    .a 6 1 <| .nil _ _) ?_
  refine aw_d 7 (
    .a 1 6 <| .p (does_c (c0)) <| .a 1 6 <| .p (does_c (c1)) <| .a 1 6 <| .p (does_c (c2)) <| .a 1 6 <| .p (does_c (c3)) <| .a 4 6 <| .nil _ _) ?_
  refine aw_sq 14 15 ?_
  refine aw_p 29 (
    .a 4 6 <| .p (does_c ((by have q := segmeet_in AX AY BX B_Y CX CY DX DY (by omega) (by omega) (by omega) (by omega) (by omega) (by omega) (by omega) (by omega) (by omega) (by omega) (by omega) (by omega) (by omega) (by omega) (by omega) (by omega); rw [(Sp.meetN_one h)] at q; exact q))) <| .nil _ _) ?_
  refine aw_bl 0 59 ?_
  refine aw_p 119 (
    .a 2 6 <| .nil _ _) ?_
  refine aw_fl 239 ?_
  refine aw_p 479 (
    .a 2 6 <| .nil _ _) ?_
  refine aw_fl 959 ?_
  refine aw_sk ?_
  refine block_normal ?_
  refine then_normal ?_
  refine aw_sq 30 31 ?_
  refine aw_p 61 (
    .a 4 6 <| .p (does_k [6] (shared_one AX AY BX B_Y CX CY DX DY zx zy (by omega) (by omega) (by omega) (by omega) (by omega) (by omega) (by omega) (by omega) (by omega) (by omega) (by omega) (by omega) (by omega) (by omega) (by omega) (by omega) h)) <| .a 1 7 <| .nil _ _) ?_
  refine aw_p 123 (
    .a 3 7 <| .nil _ _) ?_
  refine aw_tr 246 ?_
  refine aw_p 493 (
    .a 3 7 <| .p (does_c (segplace_ok zx zy (by omega) (by omega) (by omega) (by omega))) <| .a 2 7 <| .nil _ _) ?_
  refine aw_rt ?_
  refine then_ret ?_
  exact en_ret [.agg #[.int .i64 zx, .int .i64 1, .int .i64 zy, .int .i64 1], .int .i64 0] (by kernel_rfl)

theorem segatX_any (ax ay bx b_y cx cy dx dy : Int) (h : Sp.prp (Sp.lim 1048576 ax) (Sp.lim 1048576 ay) (Sp.lim 1048576 bx) (Sp.lim 1048576 b_y) (Sp.lim 1048576 cx) (Sp.lim 1048576 cy) (Sp.lim 1048576 dx) (Sp.lim 1048576 dy) = true) :
    AC Try.prog 18 0 ([.agg #[.int .i64 ax, .int .i64 ay], .agg #[.int .i64 bx, .int .i64 b_y], .agg #[.int .i64 cx, .int .i64 cy], .agg #[.int .i64 dx, .int .i64 dy]]) [] (.tuple #[.agg #[.int .i64 (Sp.qn (Sp.cpx (Sp.lim 1048576 ax) (Sp.lim 1048576 ay) (Sp.lim 1048576 bx) (Sp.lim 1048576 b_y) (Sp.lim 1048576 cx) (Sp.lim 1048576 cy) (Sp.lim 1048576 dx) (Sp.lim 1048576 dy))), .int .i64 (Sp.qd (Sp.cpx (Sp.lim 1048576 ax) (Sp.lim 1048576 ay) (Sp.lim 1048576 bx) (Sp.lim 1048576 b_y) (Sp.lim 1048576 cx) (Sp.lim 1048576 cy) (Sp.lim 1048576 dx) (Sp.lim 1048576 dy))), .int .i64 (Sp.qn (Sp.cpy (Sp.lim 1048576 ax) (Sp.lim 1048576 ay) (Sp.lim 1048576 bx) (Sp.lim 1048576 b_y) (Sp.lim 1048576 cx) (Sp.lim 1048576 cy) (Sp.lim 1048576 dx) (Sp.lim 1048576 dy))), .int .i64 (Sp.qd (Sp.cpy (Sp.lim 1048576 ax) (Sp.lim 1048576 ay) (Sp.lim 1048576 bx) (Sp.lim 1048576 b_y) (Sp.lim 1048576 cx) (Sp.lim 1048576 cy) (Sp.lim 1048576 dx) (Sp.lim 1048576 dy)))], .int .i64 0]) [] := by
  have qax := Sp.lim_bd (m := 1048576) (by decide) ax; have qay := Sp.lim_bd (m := 1048576) (by decide) ay; have qbx := Sp.lim_bd (m := 1048576) (by decide) bx; have qb_y := Sp.lim_bd (m := 1048576) (by decide) b_y; have qcx := Sp.lim_bd (m := 1048576) (by decide) cx; have qcy := Sp.lim_bd (m := 1048576) (by decide) cy; have qdx := Sp.lim_bd (m := 1048576) (by decide) dx; have qdy := Sp.lim_bd (m := 1048576) (by decide) dy; have c0 := clamp_ok ax ay; have c1 := clamp_ok bx b_y; have c2 := clamp_ok cx cy; have c3 := clamp_ok dx dy; generalize Sp.lim 1048576 ax = AX at *; generalize Sp.lim 1048576 ay = AY at *; generalize Sp.lim 1048576 bx = BX at *; generalize Sp.lim 1048576 b_y = B_Y at *; generalize Sp.lim 1048576 cx = CX at *; generalize Sp.lim 1048576 cy = CY at *; generalize Sp.lim 1048576 dx = DX at *; generalize Sp.lim 1048576 dy = DY at *; have sg := Sp.prp_sg h; have k0 := Sp.crs_bd (ax := CX) (ay := CY) (bx := DX) (b_y := DY) (cx := AX) (cy := AY) (M := 1048576) (by decide) ⟨by omega, by omega, by omega, by omega, by omega, by omega⟩; have k1 := Sp.crs_bd (ax := CX) (ay := CY) (bx := DX) (b_y := DY) (cx := BX) (cy := B_Y) (M := 1048576) (by decide) ⟨by omega, by omega, by omega, by omega, by omega, by omega⟩
  refine ac_in Try.func18 (fun w0 W pin => ?_)
  refine aw_p 3 (
    .a 6 1 <| .nil _ _) ?_
  refine aw_d 7 (
    .a 1 6 <| .p (does_c (c0)) <| .a 1 6 <| .p (does_c (c1)) <| .a 1 6 <| .p (does_c (c2)) <| .a 1 6 <| .p (does_c (c3)) <| .a 4 6 <| .nil _ _) ?_
  refine aw_sq 14 15 ?_
  refine aw_p 29 (
    .a 4 6 <| .p (does_c ((by have q := segmeet_in AX AY BX B_Y CX CY DX DY (by omega) (by omega) (by omega) (by omega) (by omega) (by omega) (by omega) (by omega) (by omega) (by omega) (by omega) (by omega) (by omega) (by omega) (by omega) (by omega); rw [(Sp.meetN_prp h)] at q; exact q))) <| .nil _ _) ?_
  refine aw_bl 0 59 ?_
  refine aw_p 119 (
    .a 2 6 <| .nil _ _) ?_
  refine aw_fl 239 ?_
  refine aw_p 479 (
    .a 2 6 <| .nil _ _) ?_
  refine aw_fl 959 ?_
  refine aw_sk ?_
  refine block_normal ?_
  refine then_normal ?_
  refine aw_sq 30 31 ?_
  refine aw_p 61 (
    .a 4 6 <| .p (does_c (shared_nil AX AY BX B_Y CX CY DX DY (by omega) (by omega) (by omega) (by omega) (by omega) (by omega) (by omega) (by omega) (by omega) (by omega) (by omega) (by omega) (by omega) (by omega) (by omega) (by omega) (Sp.prp_shr h))) <| .a 1 6 <| .nil _ _) ?_
  refine aw_p 123 (
    .a 3 6 <| .nil _ _) ?_
  refine aw_fl 247 ?_
  refine aw_sk ?_
  refine then_normal ?_
  refine aw_p 63 (
    .a 3 6 <| .p (does_c (cross_in CX CY DX DY AX AY (by omega) (by omega) (by omega) (by omega) (by omega) (by omega) (by omega) (by omega) (by omega) (by omega) (by omega) (by omega))) <| .a 1 6 <| .nil _ _) ?_
  refine aw_p 127 (
    .a 4 6 <| .p (does_c (cross_in CX CY DX DY BX B_Y (by omega) (by omega) (by omega) (by omega) (by omega) (by omega) (by omega) (by omega) (by omega) (by omega) (by omega) (by omega))) <| .p (does_i ((Sp.crs CX CY DX DY AX AY) - (Sp.crs CX CY DX DY BX B_Y)) (wrap_i64 (by omega) (by omega)) .i64) <|
    .a 1 6 <| .nil _ _) ?_
  refine aw_sq 254 255 ?_
  refine aw_p 509 (
    .a 2 6 <| .nil _ _) ?_
  refine aw_cd 1018 1019 (decide (((Sp.crs CX CY DX DY AX AY) - (Sp.crs CX CY DX DY BX B_Y)) < 0)) (fun h1 => ?_) (fun h1 => ?_)
  · have h1p : ((((Sp.crs CX CY DX DY AX AY) - (Sp.crs CX CY DX DY BX B_Y)) < 0)) := by first | (simpa using h1) | (have h1q := h1; simp at h1q; omega) | (have h1q := bx1 h1; simp at h1q; omega)
    refine aw_p1 (
      .a 1 6 <| .p (does_i (0 - (Sp.crs CX CY DX DY AX AY)) (wrap_i64 (by omega) (by omega)) .i64) <| .a 1 6 <| .p (does_i (0 - ((Sp.crs CX CY DX DY AX AY) - (Sp.crs CX CY DX DY BX B_Y))) (wrap_i64 (by omega) (by omega)) .i64) <| .a 2 6 <| .nil _ _) ?_
    refine then_normal ?_
    refine aw_d 511 (
      .a 6 6 <| .p (does_i (BX - AX) (wrap_i64 (by omega) (by omega)) .i64) <| .a 2 6 <|
      .p (does_c (along_ok AX (BX - AX) (0 - (Sp.crs CX CY DX DY AX AY)) (0 - ((Sp.crs CX CY DX DY AX AY) - (Sp.crs CX CY DX DY BX B_Y))) (by omega) (by omega) (by omega) (by omega) (by omega) (by omega) (by omega) (by omega))) <| .a 6 6 <| .p (does_i (B_Y - AY) (wrap_i64 (by omega) (by omega)) .i64) <|
      .a 2 6 <| .p (does_c (along_ok AY (B_Y - AY) (0 - (Sp.crs CX CY DX DY AX AY)) (0 - ((Sp.crs CX CY DX DY AX AY) - (Sp.crs CX CY DX DY BX B_Y))) (by omega) (by omega) (by omega) (by omega) (by omega) (by omega) (by omega) (by omega))) <| .a 3 6 <| .nil _ _) ?_
    refine aw_rt ?_
    exact en_ret [.agg #[.int .i64 (Sp.qn (Sp.alg AX (BX - AX) (0 - (Sp.crs CX CY DX DY AX AY)) (0 - ((Sp.crs CX CY DX DY AX AY) - (Sp.crs CX CY DX DY BX B_Y))))), .int .i64 (Sp.qd (Sp.alg AX (BX - AX) (0 - (Sp.crs CX CY DX DY AX AY)) (0 - ((Sp.crs CX CY DX DY AX AY) - (Sp.crs CX CY DX DY BX B_Y))))), .int .i64 (Sp.qn (Sp.alg AY (B_Y - AY) (0 - (Sp.crs CX CY DX DY AX AY)) (0 - ((Sp.crs CX CY DX DY AX AY) - (Sp.crs CX CY DX DY BX B_Y))))), .int .i64 (Sp.qd (Sp.alg AY (B_Y - AY) (0 - (Sp.crs CX CY DX DY AX AY)) (0 - ((Sp.crs CX CY DX DY AX AY) - (Sp.crs CX CY DX DY BX B_Y)))))], .int .i64 0] (show (.tuple #[.agg #[.int .i64 (Sp.qn (Sp.alg AX (BX - AX) (0 - (Sp.crs CX CY DX DY AX AY)) (0 - ((Sp.crs CX CY DX DY AX AY) - (Sp.crs CX CY DX DY BX B_Y))))), .int .i64 (Sp.qd (Sp.alg AX (BX - AX) (0 - (Sp.crs CX CY DX DY AX AY)) (0 - ((Sp.crs CX CY DX DY AX AY) - (Sp.crs CX CY DX DY BX B_Y))))), .int .i64 (Sp.qn (Sp.alg AY (B_Y - AY) (0 - (Sp.crs CX CY DX DY AX AY)) (0 - ((Sp.crs CX CY DX DY AX AY) - (Sp.crs CX CY DX DY BX B_Y))))), .int .i64 (Sp.qd (Sp.alg AY (B_Y - AY) (0 - (Sp.crs CX CY DX DY AX AY)) (0 - ((Sp.crs CX CY DX DY AX AY) - (Sp.crs CX CY DX DY BX B_Y)))))], .int .i64 0] : Value) = (.tuple #[.agg #[.int .i64 (Sp.qn (Sp.cpx AX AY BX B_Y CX CY DX DY)), .int .i64 (Sp.qd (Sp.cpx AX AY BX B_Y CX CY DX DY)), .int .i64 (Sp.qn (Sp.cpy AX AY BX B_Y CX CY DX DY)), .int .i64 (Sp.qd (Sp.cpy AX AY BX B_Y CX CY DX DY))], .int .i64 0]) from (congrArg (fun z : List Value => Value.tuple z.toArray) (lcons (congrArg (fun z : List Value => Value.agg z.toArray) (lcons (congrArg (Value.int .i64) (show (Sp.qn (Sp.alg AX (BX - AX) (0 - (Sp.crs CX CY DX DY AX AY)) (0 - ((Sp.crs CX CY DX DY AX AY) - (Sp.crs CX CY DX DY BX B_Y))))) = (Sp.qn (Sp.cpx AX AY BX B_Y CX CY DX DY)) from by (first | rfl | (simp only [Sp.cpx, Sp.cpy, Sp.alg_neg])))) (lcons (congrArg (Value.int .i64) (show (Sp.qd (Sp.alg AX (BX - AX) (0 - (Sp.crs CX CY DX DY AX AY)) (0 - ((Sp.crs CX CY DX DY AX AY) - (Sp.crs CX CY DX DY BX B_Y))))) = (Sp.qd (Sp.cpx AX AY BX B_Y CX CY DX DY)) from by (first | rfl | (simp only [Sp.cpx, Sp.cpy, Sp.alg_neg])))) (lcons (congrArg (Value.int .i64) (show (Sp.qn (Sp.alg AY (B_Y - AY) (0 - (Sp.crs CX CY DX DY AX AY)) (0 - ((Sp.crs CX CY DX DY AX AY) - (Sp.crs CX CY DX DY BX B_Y))))) = (Sp.qn (Sp.cpy AX AY BX B_Y CX CY DX DY)) from by (first | rfl | (simp only [Sp.cpx, Sp.cpy, Sp.alg_neg])))) (lcons (congrArg (Value.int .i64) (show (Sp.qd (Sp.alg AY (B_Y - AY) (0 - (Sp.crs CX CY DX DY AX AY)) (0 - ((Sp.crs CX CY DX DY AX AY) - (Sp.crs CX CY DX DY BX B_Y))))) = (Sp.qd (Sp.cpy AX AY BX B_Y CX CY DX DY)) from by (first | rfl | (simp only [Sp.cpx, Sp.cpy, Sp.alg_neg])))) rfl))))) (lcons rfl rfl))))
  · have h1p : ¬ ((((Sp.crs CX CY DX DY AX AY) - (Sp.crs CX CY DX DY BX B_Y)) < 0)) := by first | (simpa using h1) | (have h1q := h1; simp at h1q; omega) | (have h1q := bx2 h1; simp at h1q; omega)
    refine aw_sk ?_
    refine then_normal ?_
    refine aw_d 511 (
      .a 6 6 <| .p (does_i (BX - AX) (wrap_i64 (by omega) (by omega)) .i64) <| .a 2 6 <| .p (does_c (along_ok AX (BX - AX) (Sp.crs CX CY DX DY AX AY) ((Sp.crs CX CY DX DY AX AY) - (Sp.crs CX CY DX DY BX B_Y)) (by omega) (by omega) (by omega) (by omega) (by omega) (by omega) (by omega) (by omega))) <|
      .a 6 6 <| .p (does_i (B_Y - AY) (wrap_i64 (by omega) (by omega)) .i64) <| .a 2 6 <| .p (does_c (along_ok AY (B_Y - AY) (Sp.crs CX CY DX DY AX AY) ((Sp.crs CX CY DX DY AX AY) - (Sp.crs CX CY DX DY BX B_Y)) (by omega) (by omega) (by omega) (by omega) (by omega) (by omega) (by omega) (by omega))) <|
      .a 3 6 <| .nil _ _) ?_
    refine aw_rt ?_
    exact en_ret [.agg #[.int .i64 (Sp.qn (Sp.alg AX (BX - AX) (Sp.crs CX CY DX DY AX AY) ((Sp.crs CX CY DX DY AX AY) - (Sp.crs CX CY DX DY BX B_Y)))), .int .i64 (Sp.qd (Sp.alg AX (BX - AX) (Sp.crs CX CY DX DY AX AY) ((Sp.crs CX CY DX DY AX AY) - (Sp.crs CX CY DX DY BX B_Y)))), .int .i64 (Sp.qn (Sp.alg AY (B_Y - AY) (Sp.crs CX CY DX DY AX AY) ((Sp.crs CX CY DX DY AX AY) - (Sp.crs CX CY DX DY BX B_Y)))), .int .i64 (Sp.qd (Sp.alg AY (B_Y - AY) (Sp.crs CX CY DX DY AX AY) ((Sp.crs CX CY DX DY AX AY) - (Sp.crs CX CY DX DY BX B_Y))))], .int .i64 0] (show (.tuple #[.agg #[.int .i64 (Sp.qn (Sp.alg AX (BX - AX) (Sp.crs CX CY DX DY AX AY) ((Sp.crs CX CY DX DY AX AY) - (Sp.crs CX CY DX DY BX B_Y)))), .int .i64 (Sp.qd (Sp.alg AX (BX - AX) (Sp.crs CX CY DX DY AX AY) ((Sp.crs CX CY DX DY AX AY) - (Sp.crs CX CY DX DY BX B_Y)))), .int .i64 (Sp.qn (Sp.alg AY (B_Y - AY) (Sp.crs CX CY DX DY AX AY) ((Sp.crs CX CY DX DY AX AY) - (Sp.crs CX CY DX DY BX B_Y)))), .int .i64 (Sp.qd (Sp.alg AY (B_Y - AY) (Sp.crs CX CY DX DY AX AY) ((Sp.crs CX CY DX DY AX AY) - (Sp.crs CX CY DX DY BX B_Y))))], .int .i64 0] : Value) = (.tuple #[.agg #[.int .i64 (Sp.qn (Sp.cpx AX AY BX B_Y CX CY DX DY)), .int .i64 (Sp.qd (Sp.cpx AX AY BX B_Y CX CY DX DY)), .int .i64 (Sp.qn (Sp.cpy AX AY BX B_Y CX CY DX DY)), .int .i64 (Sp.qd (Sp.cpy AX AY BX B_Y CX CY DX DY))], .int .i64 0]) from (congrArg (fun z : List Value => Value.tuple z.toArray) (lcons (congrArg (fun z : List Value => Value.agg z.toArray) (lcons (congrArg (Value.int .i64) (show (Sp.qn (Sp.alg AX (BX - AX) (Sp.crs CX CY DX DY AX AY) ((Sp.crs CX CY DX DY AX AY) - (Sp.crs CX CY DX DY BX B_Y)))) = (Sp.qn (Sp.cpx AX AY BX B_Y CX CY DX DY)) from by (first | rfl | (simp only [Sp.cpx, Sp.cpy, Sp.alg_neg])))) (lcons (congrArg (Value.int .i64) (show (Sp.qd (Sp.alg AX (BX - AX) (Sp.crs CX CY DX DY AX AY) ((Sp.crs CX CY DX DY AX AY) - (Sp.crs CX CY DX DY BX B_Y)))) = (Sp.qd (Sp.cpx AX AY BX B_Y CX CY DX DY)) from by (first | rfl | (simp only [Sp.cpx, Sp.cpy, Sp.alg_neg])))) (lcons (congrArg (Value.int .i64) (show (Sp.qn (Sp.alg AY (B_Y - AY) (Sp.crs CX CY DX DY AX AY) ((Sp.crs CX CY DX DY AX AY) - (Sp.crs CX CY DX DY BX B_Y)))) = (Sp.qn (Sp.cpy AX AY BX B_Y CX CY DX DY)) from by (first | rfl | (simp only [Sp.cpx, Sp.cpy, Sp.alg_neg])))) (lcons (congrArg (Value.int .i64) (show (Sp.qd (Sp.alg AY (B_Y - AY) (Sp.crs CX CY DX DY AX AY) ((Sp.crs CX CY DX DY AX AY) - (Sp.crs CX CY DX DY BX B_Y)))) = (Sp.qd (Sp.cpy AX AY BX B_Y CX CY DX DY)) from by (first | rfl | (simp only [Sp.cpx, Sp.cpy, Sp.alg_neg])))) rfl))))) (lcons rfl rfl))))

theorem segat0_in (ax ay bx b_y cx cy dx dy : Int) (axl : -1048576 ≤ ax) (axu : ax ≤ 1048576) (ayl : -1048576 ≤ ay) (ayu : ay ≤ 1048576) (bxl : -1048576 ≤ bx) (bxu : bx ≤ 1048576) (b_yl : -1048576 ≤ b_y) (b_yu : b_y ≤ 1048576) (cxl : -1048576 ≤ cx) (cxu : cx ≤ 1048576) (cyl : -1048576 ≤ cy) (cyu : cy ≤ 1048576) (dxl : -1048576 ≤ dx) (dxu : dx ≤ 1048576) (dyl : -1048576 ≤ dy) (dyu : dy ≤ 1048576) (h : Sp.meetN ax ay bx b_y cx cy dx dy = 0) : AC Try.prog 18 0 [.agg #[.int .i64 ax, .int .i64 ay], .agg #[.int .i64 bx, .int .i64 b_y], .agg #[.int .i64 cx, .int .i64 cy], .agg #[.int .i64 dx, .int .i64 dy]] [] (.tuple #[.agg #[.int .i64 0, .int .i64 0, .int .i64 0, .int .i64 0], .int .i64 4]) [] := by
  have q := @segat0_any ax ay bx b_y cx cy dx dy
  simp only [Sp.lim_id axl axu, Sp.lim_id ayl ayu, Sp.lim_id bxl bxu, Sp.lim_id b_yl b_yu, Sp.lim_id cxl cxu, Sp.lim_id cyl cyu, Sp.lim_id dxl dxu, Sp.lim_id dyl dyu] at q
  exact q h

theorem segat2_in (ax ay bx b_y cx cy dx dy : Int) (axl : -1048576 ≤ ax) (axu : ax ≤ 1048576) (ayl : -1048576 ≤ ay) (ayu : ay ≤ 1048576) (bxl : -1048576 ≤ bx) (bxu : bx ≤ 1048576) (b_yl : -1048576 ≤ b_y) (b_yu : b_y ≤ 1048576) (cxl : -1048576 ≤ cx) (cxu : cx ≤ 1048576) (cyl : -1048576 ≤ cy) (cyu : cy ≤ 1048576) (dxl : -1048576 ≤ dx) (dxu : dx ≤ 1048576) (dyl : -1048576 ≤ dy) (dyu : dy ≤ 1048576) (h : Sp.meetN ax ay bx b_y cx cy dx dy = 2) : AC Try.prog 18 0 [.agg #[.int .i64 ax, .int .i64 ay], .agg #[.int .i64 bx, .int .i64 b_y], .agg #[.int .i64 cx, .int .i64 cy], .agg #[.int .i64 dx, .int .i64 dy]] [] (.tuple #[.agg #[.int .i64 0, .int .i64 0, .int .i64 0, .int .i64 0], .int .i64 10]) [] := by
  have q := @segat2_any ax ay bx b_y cx cy dx dy
  simp only [Sp.lim_id axl axu, Sp.lim_id ayl ayu, Sp.lim_id bxl bxu, Sp.lim_id b_yl b_yu, Sp.lim_id cxl cxu, Sp.lim_id cyl cyu, Sp.lim_id dxl dxu, Sp.lim_id dyl dyu] at q
  exact q h

theorem segat1_in (ax ay bx b_y cx cy dx dy : Int) (axl : -1048576 ≤ ax) (axu : ax ≤ 1048576) (ayl : -1048576 ≤ ay) (ayu : ay ≤ 1048576) (bxl : -1048576 ≤ bx) (bxu : bx ≤ 1048576) (b_yl : -1048576 ≤ b_y) (b_yu : b_y ≤ 1048576) (cxl : -1048576 ≤ cx) (cxu : cx ≤ 1048576) (cyl : -1048576 ≤ cy) (cyu : cy ≤ 1048576) (dxl : -1048576 ≤ dx) (dxu : dx ≤ 1048576) (dyl : -1048576 ≤ dy) (dyu : dy ≤ 1048576) (zx zy : Int) (h : Sp.shr ax ay bx b_y cx cy dx dy = [(zx, zy)]) : AC Try.prog 18 0 [.agg #[.int .i64 ax, .int .i64 ay], .agg #[.int .i64 bx, .int .i64 b_y], .agg #[.int .i64 cx, .int .i64 cy], .agg #[.int .i64 dx, .int .i64 dy]] [] (.tuple #[.agg #[.int .i64 zx, .int .i64 1, .int .i64 zy, .int .i64 1], .int .i64 0]) [] := by
  have q := @segat1_any ax ay bx b_y cx cy dx dy
  simp only [Sp.lim_id axl axu, Sp.lim_id ayl ayu, Sp.lim_id bxl bxu, Sp.lim_id b_yl b_yu, Sp.lim_id cxl cxu, Sp.lim_id cyl cyu, Sp.lim_id dxl dxu, Sp.lim_id dyl dyu] at q
  exact q zx zy h

theorem segatX_in (ax ay bx b_y cx cy dx dy : Int) (axl : -1048576 ≤ ax) (axu : ax ≤ 1048576) (ayl : -1048576 ≤ ay) (ayu : ay ≤ 1048576) (bxl : -1048576 ≤ bx) (bxu : bx ≤ 1048576) (b_yl : -1048576 ≤ b_y) (b_yu : b_y ≤ 1048576) (cxl : -1048576 ≤ cx) (cxu : cx ≤ 1048576) (cyl : -1048576 ≤ cy) (cyu : cy ≤ 1048576) (dxl : -1048576 ≤ dx) (dxu : dx ≤ 1048576) (dyl : -1048576 ≤ dy) (dyu : dy ≤ 1048576) (h : Sp.prp ax ay bx b_y cx cy dx dy = true) : AC Try.prog 18 0 [.agg #[.int .i64 ax, .int .i64 ay], .agg #[.int .i64 bx, .int .i64 b_y], .agg #[.int .i64 cx, .int .i64 cy], .agg #[.int .i64 dx, .int .i64 dy]] [] (.tuple #[.agg #[.int .i64 (Sp.qn (Sp.cpx ax ay bx b_y cx cy dx dy)), .int .i64 (Sp.qd (Sp.cpx ax ay bx b_y cx cy dx dy)), .int .i64 (Sp.qn (Sp.cpy ax ay bx b_y cx cy dx dy)), .int .i64 (Sp.qd (Sp.cpy ax ay bx b_y cx cy dx dy))], .int .i64 0]) [] := by
  have q := @segatX_any ax ay bx b_y cx cy dx dy
  simp only [Sp.lim_id axl axu, Sp.lim_id ayl ayu, Sp.lim_id bxl bxu, Sp.lim_id b_yl b_yu, Sp.lim_id cxl cxu, Sp.lim_id cyl cyu, Sp.lim_id dxl dxu, Sp.lim_id dyl dyu] at q
  exact q h

end Go.Proofs.Ytigllakcfdoagaa.Am
