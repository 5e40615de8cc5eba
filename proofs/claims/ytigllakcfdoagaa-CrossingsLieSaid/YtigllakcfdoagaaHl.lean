/-
  The walk of a place on a line.
-/
import Derived.Test.YtigllakcfdoagaaProg
import Derived.Test.YtigllakcfdoagaaAm16
import Derived.Test.YtigllakcfdoagaaFr4
import Derived.Test.YtigllakcfdoagaaCr2
import Derived.Test.YtigllakcfdoagaaPt1
namespace Go.Proofs.Ytigllakcfdoagaa.Am
open Go Go.Proofs
set_option maxRecDepth 100000
set_option maxHeartbeats 4000000
set_option linter.unusedVariables false
set_option linter.unusedSimpArgs false

theorem h6line_ok (ax ay bx b_y : Int) (axl : -41 ≤ ax) (axu : ax ≤ 41) (ayl : -41 ≤ ay) (ayu : ay ≤ 41) (bxl : -41 ≤ bx) (bxu : bx ≤ 41) (b_yl : -41 ≤ b_y) (b_yu : b_y ≤ 41) (n1 d1 : Int) (zln1 : -9223372036854775808 ≤ n1) (zun1 : n1 ≤ 9223372036854775807) (zld1 : -9223372036854775808 ≤ d1) (zud1 : d1 ≤ 9223372036854775807) (n2 d2 : Int) (zln2 : -9223372036854775808 ≤ n2) (zun2 : n2 ≤ 9223372036854775807) (zld2 : -9223372036854775808 ≤ d2) (zud2 : d2 ≤ 9223372036854775807) (bX : Sp.Bd 551368 13448 (Sp.rv n1 d1)) (bY : Sp.Bd 551368 13448 (Sp.rv n2 d2)) :
    AC Try.prog 76 0 ([.agg #[.int .i64 ax, .int .i64 ay], .agg #[.int .i64 bx, .int .i64 b_y], .agg #[.int .i64 n1, .int .i64 d1, .int .i64 n2, .int .i64 d2]]) [] (.bool (decide (((b_y - ay : Int) : Rat) * ((Sp.rv n1 d1) + (-((ax : Int) : Rat))) = ((bx - ax : Int) : Rat) * ((Sp.rv n2 d2) + (-((ay : Int) : Rat)))))) [] := by
  refine ac_in Try.func76 (fun w0 W pin => ?_)
  refine aw_p 3 (
    .a 4 1 <| .nil _ _) ?_
  refine aw_d 7 (
    .a 4 4 <| .p (does_c ((by have h := fof_ok ax; rw [Sp.mx_id (by omega)] at h; exact h))) <|
    .p (does_c ((by have h := fsub_ok n1 d1 (by omega) (by omega) (by omega) (by omega) ax 1 (by omega) (by omega) (by decide) (by decide); rw [(Sp.rv_int ax (by omega)), (Sp.qe_fit (q := ((Sp.rv n1 d1) + (-((ax : Int) : Rat)))) (Sp.bd_fit (Sp.Bd.add bX (Sp.Bd.neg (Sp.Bd.mono (N' := 41) (D' := 1) (Sp.Bd.int (ax)) (by omega) (by decide)))) (by decide) (by decide)))] at h; exact h))) <|
    .a 6 4 <| .nil _ _) ?_
  refine aw_d 15 (
    .a 4 5 <| .p (does_c ((by have h := fof_ok ay; rw [Sp.mx_id (by omega)] at h; exact h))) <|
    .p (does_c ((by have h := fsub_ok n2 d2 (by omega) (by omega) (by omega) (by omega) ay 1 (by omega) (by omega) (by decide) (by decide); rw [(Sp.rv_int ay (by omega)), (Sp.qe_fit (q := ((Sp.rv n2 d2) + (-((ay : Int) : Rat)))) (Sp.bd_fit (Sp.Bd.add bY (Sp.Bd.neg (Sp.Bd.mono (N' := 41) (D' := 1) (Sp.Bd.int (ay)) (by omega) (by decide)))) (by decide) (by decide)))] at h; exact h))) <|
    .a 6 5 <| .nil _ _) ?_
  refine aw_d 31 (
    .a 4 6 <| .p (does_i (b_y - ay) (wrap_i64 (by omega) (by omega)) .i64) <| .p (does_c ((by have h := fof_ok (b_y - ay); rw [Sp.mx_id (by omega)] at h; exact h))) <| .a 1 6 <|
    .p (does_c ((by have h := fmul_ok (b_y - ay) 1 (by omega) (by omega) (by decide) (by decide) (Sp.qn ((Sp.rv n1 d1) + (-((ax : Int) : Rat)))) (Sp.qd ((Sp.rv n1 d1) + (-((ax : Int) : Rat)))) (by have := Sp.qn_bd ((Sp.rv n1 d1) + (-((ax : Int) : Rat))); omega) (by have := Sp.qn_bd ((Sp.rv n1 d1) + (-((ax : Int) : Rat))); omega) (by have := Sp.qd_bd ((Sp.rv n1 d1) + (-((ax : Int) : Rat))); omega) (by have := Sp.qd_bd ((Sp.rv n1 d1) + (-((ax : Int) : Rat))); omega); rw [(Sp.rv_int (b_y - ay) (by omega)), (Sp.rv_fit (q := ((Sp.rv n1 d1) + (-((ax : Int) : Rat)))) (Sp.bd_fit (Sp.Bd.add bX (Sp.Bd.neg (Sp.Bd.mono (N' := 41) (D' := 1) (Sp.Bd.int (ax)) (by omega) (by decide)))) (by decide) (by decide))), (Sp.qe_fit (q := (((b_y - ay : Int) : Rat) * ((Sp.rv n1 d1) + (-((ax : Int) : Rat))))) (Sp.bd_fit (Sp.Bd.mul (Sp.Bd.mono (N' := 82) (D' := 1) (Sp.Bd.int (b_y - ay)) (by omega) (by decide)) (Sp.Bd.add bX (Sp.Bd.neg (Sp.Bd.mono (N' := 41) (D' := 1) (Sp.Bd.int (ax)) (by omega) (by decide))))) (by decide) (by decide)))] at h; exact h))) <|
    .a 6 6 <| .nil _ _) ?_
  refine aw_d 63 (
    .a 4 7 <| .p (does_i (bx - ax) (wrap_i64 (by omega) (by omega)) .i64) <| .p (does_c ((by have h := fof_ok (bx - ax); rw [Sp.mx_id (by omega)] at h; exact h))) <| .a 1 7 <|
    .p (does_c ((by have h := fmul_ok (bx - ax) 1 (by omega) (by omega) (by decide) (by decide) (Sp.qn ((Sp.rv n2 d2) + (-((ay : Int) : Rat)))) (Sp.qd ((Sp.rv n2 d2) + (-((ay : Int) : Rat)))) (by have := Sp.qn_bd ((Sp.rv n2 d2) + (-((ay : Int) : Rat))); omega) (by have := Sp.qn_bd ((Sp.rv n2 d2) + (-((ay : Int) : Rat))); omega) (by have := Sp.qd_bd ((Sp.rv n2 d2) + (-((ay : Int) : Rat))); omega) (by have := Sp.qd_bd ((Sp.rv n2 d2) + (-((ay : Int) : Rat))); omega); rw [(Sp.rv_int (bx - ax) (by omega)), (Sp.rv_fit (q := ((Sp.rv n2 d2) + (-((ay : Int) : Rat)))) (Sp.bd_fit (Sp.Bd.add bY (Sp.Bd.neg (Sp.Bd.mono (N' := 41) (D' := 1) (Sp.Bd.int (ay)) (by omega) (by decide)))) (by decide) (by decide))), (Sp.qe_fit (q := (((bx - ax : Int) : Rat) * ((Sp.rv n2 d2) + (-((ay : Int) : Rat))))) (Sp.bd_fit (Sp.Bd.mul (Sp.Bd.mono (N' := 82) (D' := 1) (Sp.Bd.int (bx - ax)) (by omega) (by decide)) (Sp.Bd.add bY (Sp.Bd.neg (Sp.Bd.mono (N' := 41) (D' := 1) (Sp.Bd.int (ay)) (by omega) (by decide))))) (by decide) (by decide)))] at h; exact h))) <|
    .a 6 7 <| .nil _ _) ?_
  refine aw_p 127 (
    .a 17 8 <|
    .p (does_c ((by have h := fcmp_ok (Sp.qn (((b_y - ay : Int) : Rat) * ((Sp.rv n1 d1) + (-((ax : Int) : Rat))))) (Sp.qd (((b_y - ay : Int) : Rat) * ((Sp.rv n1 d1) + (-((ax : Int) : Rat))))) (by have := Sp.qn_bd (((b_y - ay : Int) : Rat) * ((Sp.rv n1 d1) + (-((ax : Int) : Rat)))); omega) (by have := Sp.qn_bd (((b_y - ay : Int) : Rat) * ((Sp.rv n1 d1) + (-((ax : Int) : Rat)))); omega) (by have := Sp.qd_bd (((b_y - ay : Int) : Rat) * ((Sp.rv n1 d1) + (-((ax : Int) : Rat)))); omega) (by have := Sp.qd_bd (((b_y - ay : Int) : Rat) * ((Sp.rv n1 d1) + (-((ax : Int) : Rat)))); omega) (Sp.qn (((bx - ax : Int) : Rat) * ((Sp.rv n2 d2) + (-((ay : Int) : Rat))))) (Sp.qd (((bx - ax : Int) : Rat) * ((Sp.rv n2 d2) + (-((ay : Int) : Rat))))) (by have := Sp.qn_bd (((bx - ax : Int) : Rat) * ((Sp.rv n2 d2) + (-((ay : Int) : Rat)))); omega) (by have := Sp.qn_bd (((bx - ax : Int) : Rat) * ((Sp.rv n2 d2) + (-((ay : Int) : Rat)))); omega) (by have := Sp.qd_bd (((bx - ax : Int) : Rat) * ((Sp.rv n2 d2) + (-((ay : Int) : Rat)))); omega) (by have := Sp.qd_bd (((bx - ax : Int) : Rat) * ((Sp.rv n2 d2) + (-((ay : Int) : Rat)))); omega); rw [(Sp.rv_fit (q := (((b_y - ay : Int) : Rat) * ((Sp.rv n1 d1) + (-((ax : Int) : Rat))))) (Sp.bd_fit (Sp.Bd.mul (Sp.Bd.mono (N' := 82) (D' := 1) (Sp.Bd.int (b_y - ay)) (by omega) (by decide)) (Sp.Bd.add bX (Sp.Bd.neg (Sp.Bd.mono (N' := 41) (D' := 1) (Sp.Bd.int (ax)) (by omega) (by decide))))) (by decide) (by decide))), (Sp.rv_fit (q := (((bx - ax : Int) : Rat) * ((Sp.rv n2 d2) + (-((ay : Int) : Rat))))) (Sp.bd_fit (Sp.Bd.mul (Sp.Bd.mono (N' := 82) (D' := 1) (Sp.Bd.int (bx - ax)) (by omega) (by decide)) (Sp.Bd.add bY (Sp.Bd.neg (Sp.Bd.mono (N' := 41) (D' := 1) (Sp.Bd.int (ay)) (by omega) (by decide))))) (by decide) (by decide)))] at h; exact h))) <|
    .p (does_b (decide ((((b_y - ay : Int) : Rat) * ((Sp.rv n1 d1) + (-((ax : Int) : Rat)))) = (((bx - ax : Int) : Rat) * ((Sp.rv n2 d2) + (-((ay : Int) : Rat)))))) ((Sp.rcmp_eq (((b_y - ay : Int) : Rat) * ((Sp.rv n1 d1) + (-((ax : Int) : Rat)))) (((bx - ax : Int) : Rat) * ((Sp.rv n2 d2) + (-((ay : Int) : Rat))))))) <|
    .a 2 8 <| .nil _ _) ?_
  refine aw_rt ?_
  exact en_ret [.bool (decide ((((b_y - ay : Int) : Rat) * ((Sp.rv n1 d1) + (-((ax : Int) : Rat)))) = (((bx - ax : Int) : Rat) * ((Sp.rv n2 d2) + (-((ay : Int) : Rat))))))] (show (.bool (decide ((((b_y - ay : Int) : Rat) * ((Sp.rv n1 d1) + (-((ax : Int) : Rat)))) = (((bx - ax : Int) : Rat) * ((Sp.rv n2 d2) + (-((ay : Int) : Rat)))))) : Value) = (.bool (decide (((b_y - ay : Int) : Rat) * ((Sp.rv n1 d1) + (-((ax : Int) : Rat))) = ((bx - ax : Int) : Rat) * ((Sp.rv n2 d2) + (-((ay : Int) : Rat)))))) from (congrArg Value.bool (show (decide ((((b_y - ay : Int) : Rat) * ((Sp.rv n1 d1) + (-((ax : Int) : Rat)))) = (((bx - ax : Int) : Rat) * ((Sp.rv n2 d2) + (-((ay : Int) : Rat)))))) = (decide (((b_y - ay : Int) : Rat) * ((Sp.rv n1 d1) + (-((ax : Int) : Rat))) = ((bx - ax : Int) : Rat) * ((Sp.rv n2 d2) + (-((ay : Int) : Rat))))) from by rfl)))

theorem h6point_ok (x : Int) (hx : Sp.In64 x) :
    AC Try.prog 75 0 ([.int .i64 x]) [] (.agg #[.int .i64 (x % 81 - 40), .int .i64 (Int.tdiv x 81 % 81 - 40)]) [] := by
  refine ac_in Try.func75 (fun w0 W pin => ?_)
  refine aw_p 3 (
    .a 1 1 <| .nil _ _) ?_
  refine aw_p 7 (
    .a 2 2 <| .p (does_i (Int.tdiv x 81) (wrap_i64 (Sp.tdiv_in hx (by decide)).1 (Sp.tdiv_in hx (by decide)).2) .i64) <| .a 1 2 <| .p (does_k [2] (mpoint_ok x (Int.tdiv x 81))) <| .a 1 3 <| .nil _ _) ?_
  refine aw_rt ?_
  exact en_ret [.agg #[.int .i64 (x % 81 - 40), .int .i64 ((Int.tdiv x 81) % 81 - 40)]] (show (.agg #[.int .i64 (x % 81 - 40), .int .i64 ((Int.tdiv x 81) % 81 - 40)] : Value) = (.agg #[.int .i64 (x % 81 - 40), .int .i64 (Int.tdiv x 81 % 81 - 40)]) from (congrArg (fun z : List Value => Value.agg z.toArray) (lcons rfl (lcons (congrArg (Value.int .i64) (show ((Int.tdiv x 81) % 81 - 40) = (Int.tdiv x 81 % 81 - 40) from by rfl)) rfl))))


end Go.Proofs.Ytigllakcfdoagaa.Am
