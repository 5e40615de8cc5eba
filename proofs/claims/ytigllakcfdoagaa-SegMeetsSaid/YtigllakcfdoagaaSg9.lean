/-
  The walk of points on a line.
-/
import Derived.Test.YtigllakcfdoagaaProg
import Derived.Test.YtigllakcfdoagaaAm16
import Derived.Test.YtigllakcfdoagaaFr1
import Derived.Test.YtigllakcfdoagaaSq6
namespace Go.Proofs.Ytigllakcfdoagaa.Am
open Go Go.Proofs
set_option maxRecDepth 100000
set_option maxHeartbeats 4000000
set_option linter.unusedVariables false
set_option linter.unusedSimpArgs false

theorem ronline_ok (ax ay bx b_y : Int) (axl : -1048576 ≤ ax) (axu : ax ≤ 1048576) (ayl : -1048576 ≤ ay) (ayu : ay ≤ 1048576) (bxl : -1048576 ≤ bx) (bxu : bx ≤ 1048576) (b_yl : -1048576 ≤ b_y) (b_yu : b_y ≤ 1048576) (n1 d1 : Int) (zln1 : -9223372036854775808 ≤ n1) (zun1 : n1 ≤ 9223372036854775807) (zld1 : -9223372036854775808 ≤ d1) (zud1 : d1 ≤ 9223372036854775807) (n2 d2 : Int) (zln2 : -9223372036854775808 ≤ n2) (zun2 : n2 ≤ 9223372036854775807) (zld2 : -9223372036854775808 ≤ d2) (zud2 : d2 ≤ 9223372036854775807) (h : Sp.onl ax ay bx b_y (Sp.fn n1 d1) (Sp.fd n1 d1) (Sp.fn n2 d2) (Sp.fd n2 d2)) :
    AC Try.prog 24 0 ([.agg #[.int .i64 ax, .int .i64 ay], .agg #[.int .i64 bx, .int .i64 b_y], .agg #[.int .i64 n1, .int .i64 d1, .int .i64 n2, .int .i64 d2]]) [] (.bool true) [] := by
  refine ac_in Try.func24 (fun w0 W pin => ?_)
  refine aw_p 3 (
    .a 4 1 <| .nil _ _) ?_
  refine aw_p 7 (
    .a 2 4 <| .p (does_c (rpair_ok n1 d1 (by omega) (by omega) (by omega) (by omega))) <| .a 7 4 <| .nil _ _) ?_
  refine aw_p 15 (
    .a 2 6 <| .p (does_c (rpair_ok n2 d2 (by omega) (by omega) (by omega) (by omega))) <| .a 7 6 <| .nil _ _) ?_
  refine aw_d 31 (
    .a 4 8 <| .p (does_i (bx - ax) (wrap_i64 (by omega) (by omega)) .i64) <| .p (does_c (llof_ok (bx - ax) (by omega) (by omega))) <| .a 3 8 <| .p (does_c (llof_ok ay (by omega) (by omega))) <| .a 1 8 <| .p (does_c (ltimes_ok ay (Sp.fd n2 d2))) <|
    .p (does_c (lminus_ok (Sp.fn n2 d2) (ay * (Sp.fd n2 d2)))) <| .p (does_c (ltimes_ok (bx - ax) ((Sp.fn n2 d2) - (ay * (Sp.fd n2 d2))))) <| .a 1 8 <| .p (does_c (ltimes_ok ((bx - ax) * ((Sp.fn n2 d2) - (ay * (Sp.fd n2 d2)))) (Sp.fd n1 d1))) <| .a 2 8 <| .nil _ _) ?_
  refine aw_d 63 (
    .a 4 9 <| .p (does_i (b_y - ay) (wrap_i64 (by omega) (by omega)) .i64) <| .p (does_c (llof_ok (b_y - ay) (by omega) (by omega))) <| .a 3 9 <| .p (does_c (llof_ok ax (by omega) (by omega))) <| .a 1 9 <| .p (does_c (ltimes_ok ax (Sp.fd n1 d1))) <|
    .p (does_c (lminus_ok (Sp.fn n1 d1) (ax * (Sp.fd n1 d1)))) <| .p (does_c (ltimes_ok (b_y - ay) ((Sp.fn n1 d1) - (ax * (Sp.fd n1 d1))))) <| .a 1 9 <| .p (does_c (ltimes_ok ((b_y - ay) * ((Sp.fn n1 d1) - (ax * (Sp.fd n1 d1)))) (Sp.fd n2 d2))) <| .a 2 9 <| .nil _ _) ?_
  refine aw_p 127 (
    .a 2 10 <|
    .p (does_e true ((show (((Sp.dgt (((bx - ax) * ((Sp.fn n2 d2) - (ay * (Sp.fd n2 d2)))) * (Sp.fd n1 d1)) 0) == (Sp.dgt (((b_y - ay) * ((Sp.fn n1 d1) - (ax * (Sp.fd n1 d1)))) * (Sp.fd n2 d2)) 0)) && (((Sp.dgt (((bx - ax) * ((Sp.fn n2 d2) - (ay * (Sp.fd n2 d2)))) * (Sp.fd n1 d1)) 1) == (Sp.dgt (((b_y - ay) * ((Sp.fn n1 d1) - (ax * (Sp.fd n1 d1)))) * (Sp.fd n2 d2)) 1)) && (((Sp.dgt (((bx - ax) * ((Sp.fn n2 d2) - (ay * (Sp.fd n2 d2)))) * (Sp.fd n1 d1)) 2) == (Sp.dgt (((b_y - ay) * ((Sp.fn n1 d1) - (ax * (Sp.fd n1 d1)))) * (Sp.fd n2 d2)) 2)) && (((Sp.dgt (((bx - ax) * ((Sp.fn n2 d2) - (ay * (Sp.fd n2 d2)))) * (Sp.fd n1 d1)) 3) == (Sp.dgt (((b_y - ay) * ((Sp.fn n1 d1) - (ax * (Sp.fd n1 d1)))) * (Sp.fd n2 d2)) 3)) && (((Sp.dgt (((bx - ax) * ((Sp.fn n2 d2) - (ay * (Sp.fd n2 d2)))) * (Sp.fd n1 d1)) 4) == (Sp.dgt (((b_y - ay) * ((Sp.fn n1 d1) - (ax * (Sp.fd n1 d1)))) * (Sp.fd n2 d2)) 4)) && (((Sp.dgt (((bx - ax) * ((Sp.fn n2 d2) - (ay * (Sp.fd n2 d2)))) * (Sp.fd n1 d1)) 5) == (Sp.dgt (((b_y - ay) * ((Sp.fn n1 d1) - (ax * (Sp.fd n1 d1)))) * (Sp.fd n2 d2)) 5)) && (((Sp.dgt (((bx - ax) * ((Sp.fn n2 d2) - (ay * (Sp.fd n2 d2)))) * (Sp.fd n1 d1)) 6) == (Sp.dgt (((b_y - ay) * ((Sp.fn n1 d1) - (ax * (Sp.fd n1 d1)))) * (Sp.fd n2 d2)) 6)) && true))))))) = true from (by have qq : (((bx - ax) * ((Sp.fn n2 d2) - (ay * (Sp.fd n2 d2)))) * (Sp.fd n1 d1)) = (((b_y - ay) * ((Sp.fn n1 d1) - (ax * (Sp.fd n1 d1)))) * (Sp.fd n2 d2)) := (by exact h); rw [qq]; first | (simp; done) | decide)))) <|
    .a 1 10 <| .nil _ _) ?_
  refine aw_rt ?_
  exact en_ret [.bool true] (by kernel_rfl)


end Go.Proofs.Ytigllakcfdoagaa.Am
