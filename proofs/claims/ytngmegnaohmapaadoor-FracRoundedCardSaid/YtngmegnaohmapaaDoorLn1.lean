/-
  The walks of numbers of 224 bits, first part.
-/
import Derived.Test.YtngmegnaohmapaaDoorProg
import Derived.Test.YtngmegnaohmapaaDoorAm16
import Derived.Test.YtngmegnaohmapaaDoorNc7
namespace Go.Proofs.YtngmegnaohmapaaDoor.Am
open Go Go.Proofs
set_option maxRecDepth 100000
set_option maxHeartbeats 4000000
set_option linter.unusedVariables false
set_option linter.unusedSimpArgs false

theorem lplus_ok (m n : Int) :
    AC Tryd.prog 48 0 ([lval m, lval n]) [] (lval (m + n)) [] := by
  refine ac_in Tryd.func48 (fun w0 W pin => ?_)
  refine aw_p 3 (
    .a 3 1 <| .nil _ _) ?_
  refine aw_p 7 (
    .p (does_i (Sp.cy m n 0) ((Sp.cy_zero m n).symm) .u64) <| .nil _ _) ?_
  refine aw_sq 14 15 ?_
  refine aw_p 29 (
    .a 1 4 <| .nil _ _) ?_
  refine aw_bl 0 59 ?_
  refine aw_lp 119 ?_
  refine al_round ?_
  refine aw_p 239 (
    .a 1 4 <| .nil _ _) ?_
  refine aw_sq 478 479 ?_
  refine aw_tr 956 ?_
  refine aw_sk ?_
  refine then_normal ?_
  refine aw_sq 958 959 ?_
  refine aw_bl 1 1917 ?_
  refine aw_p 3835 (
    .a 2 4 <| .nil _ _) ?_
  refine aw_d 7671 (
    .a 7 4 <| .p (does_i ((Sp.dgt m 0) + (Sp.dgt n 0)) (wrap_u64 (Sp.plus_bd1 m n 0).1 (Sp.plus_bd1 m n 0).2) .u64) <| .p (does_i ((Sp.cy m n 0) + ((Sp.dgt m 0) + (Sp.dgt n 0))) (wrap_u64 (Sp.plus_bd2 m n 0).1 (Sp.plus_bd2 m n 0).2) .u64) <| .a 1 4 <| .nil _ _) ?_
  refine aw_p 15343 (
    .a 2 4 <| .p (does_i (Sp.dgt (m + n) 0) ((Sp.umod (Sp.plus_bd2 m n 0).1).trans ((Sp.dgt_add m n 0).symm)) .u64) <| .a 2 4 <| .nil _ _) ?_
  refine aw_p1 (
    .a 1 4 <| .p (does_i (Sp.cy m n 1) ((Sp.ufd (by decide)).trans ((Sp.cy_succ m n 0).symm)) .u64) <| .a 1 4 <| .nil _ _) ?_
  refine block_normal ?_
  refine then_normal ?_
  refine aw_p1 (
    .a 2 4 <| .nil _ _) ?_
  refine then_normal ?_
  refine al_round ?_
  refine aw_p 239 (
    .a 1 4 <| .nil _ _) ?_
  refine aw_w [(2, .pointer (some ⟨1, 0, none⟩)), (3, .pointer (some ⟨2, 0, none⟩)), (4, .pointer (some ⟨3, 0, none⟩)), (5, .int .u64 (Sp.cy m n 1)), (6, .int .i64 0), (7, .int .i64 1), (8, .bool true)] [(1, ⟨[.int .u64 (Sp.dgt (m + n) 0), .int .u64 (Sp.dgt m 1), .int .u64 (Sp.dgt m 2), .int .u64 (Sp.dgt m 3), .int .u64 (Sp.dgt m 4), .int .u64 (Sp.dgt m 5), .int .u64 (Sp.dgt m 6)], 27, true, 1⟩), (2, ⟨(lds n), 27, true, 1⟩), (3, ⟨[.int .u64 0, .int .u64 0, .int .u64 0, .int .u64 0, .int .u64 0, .int .u64 0, .int .u64 0], 27, true, 1⟩)] ?_
  refine aw_sq 478 479 ?_
  refine aw_tr 956 ?_
  refine aw_sk ?_
  refine then_normal ?_
  refine aw_sq 958 959 ?_
  refine aw_bl 1 1917 ?_
  refine aw_p 3835 (
    .a 2 4 <| .nil _ _) ?_
  refine aw_d 7671 (
    .a 7 4 <| .p (does_i ((Sp.dgt m 1) + (Sp.dgt n 1)) (wrap_u64 (Sp.plus_bd1 m n 1).1 (Sp.plus_bd1 m n 1).2) .u64) <| .p (does_i ((Sp.cy m n 1) + ((Sp.dgt m 1) + (Sp.dgt n 1))) (wrap_u64 (Sp.plus_bd2 m n 1).1 (Sp.plus_bd2 m n 1).2) .u64) <| .a 1 4 <| .nil _ _) ?_
  refine aw_p 15343 (
    .a 2 4 <| .p (does_i (Sp.dgt (m + n) 1) ((Sp.umod (Sp.plus_bd2 m n 1).1).trans ((Sp.dgt_add m n 1).symm)) .u64) <| .a 2 4 <| .nil _ _) ?_
  refine aw_p1 (
    .a 1 4 <| .p (does_i (Sp.cy m n 2) ((Sp.ufd (by decide)).trans ((Sp.cy_succ m n 1).symm)) .u64) <| .a 1 4 <| .nil _ _) ?_
  refine block_normal ?_
  refine then_normal ?_
  refine aw_p1 (
    .a 2 4 <| .nil _ _) ?_
  refine then_normal ?_
  refine al_round ?_
  refine aw_p 239 (
    .a 1 4 <| .nil _ _) ?_
  refine aw_sq 478 479 ?_
  refine aw_tr 956 ?_
  refine aw_sk ?_
  refine then_normal ?_
  refine aw_sq 958 959 ?_
  refine aw_bl 1 1917 ?_
  refine aw_p 3835 (
    .a 2 4 <| .nil _ _) ?_
  refine aw_w [(2, .pointer (some ⟨1, 0, none⟩)), (3, .pointer (some ⟨2, 0, none⟩)), (4, .pointer (some ⟨3, 0, none⟩)), (5, .int .u64 (Sp.cy m n 2)), (6, .int .i64 2), (7, .int .i64 2), (8, .bool true)] [(1, ⟨[.int .u64 (Sp.dgt (m + n) 0), .int .u64 (Sp.dgt (m + n) 1), .int .u64 (Sp.dgt m 2), .int .u64 (Sp.dgt m 3), .int .u64 (Sp.dgt m 4), .int .u64 (Sp.dgt m 5), .int .u64 (Sp.dgt m 6)], 27, true, 1⟩), (2, ⟨(lds n), 27, true, 1⟩), (3, ⟨[.int .u64 0, .int .u64 0, .int .u64 0, .int .u64 0, .int .u64 0, .int .u64 0, .int .u64 0], 27, true, 1⟩)] ?_
  refine aw_d 7671 (
    .a 7 4 <| .p (does_i ((Sp.dgt m 2) + (Sp.dgt n 2)) (wrap_u64 (Sp.plus_bd1 m n 2).1 (Sp.plus_bd1 m n 2).2) .u64) <| .p (does_i ((Sp.cy m n 2) + ((Sp.dgt m 2) + (Sp.dgt n 2))) (wrap_u64 (Sp.plus_bd2 m n 2).1 (Sp.plus_bd2 m n 2).2) .u64) <| .a 1 4 <| .nil _ _) ?_
  refine aw_p 15343 (
    .a 2 4 <| .p (does_i (Sp.dgt (m + n) 2) ((Sp.umod (Sp.plus_bd2 m n 2).1).trans ((Sp.dgt_add m n 2).symm)) .u64) <| .a 2 4 <| .nil _ _) ?_
  refine aw_p1 (
    .a 1 4 <| .p (does_i (Sp.cy m n 3) ((Sp.ufd (by decide)).trans ((Sp.cy_succ m n 2).symm)) .u64) <| .a 1 4 <| .nil _ _) ?_
  refine block_normal ?_
  refine then_normal ?_
  refine aw_p1 (
    .a 2 4 <| .nil _ _) ?_
  refine then_normal ?_
  refine al_round ?_
  refine aw_p 239 (
    .a 1 4 <| .nil _ _) ?_
  refine aw_sq 478 479 ?_
  refine aw_tr 956 ?_
  refine aw_sk ?_
  refine then_normal ?_
  refine aw_sq 958 959 ?_
  refine aw_bl 1 1917 ?_
  refine aw_p 3835 (
    .a 2 4 <| .nil _ _) ?_
  refine aw_d 7671 (
    .a 7 4 <| .p (does_i ((Sp.dgt m 3) + (Sp.dgt n 3)) (wrap_u64 (Sp.plus_bd1 m n 3).1 (Sp.plus_bd1 m n 3).2) .u64) <| .p (does_i ((Sp.cy m n 3) + ((Sp.dgt m 3) + (Sp.dgt n 3))) (wrap_u64 (Sp.plus_bd2 m n 3).1 (Sp.plus_bd2 m n 3).2) .u64) <| .a 1 4 <| .nil _ _) ?_
  refine aw_w [(2, .pointer (some ⟨1, 0, none⟩)), (3, .pointer (some ⟨2, 0, none⟩)), (4, .pointer (some ⟨3, 0, none⟩)), (5, .int .u64 ((Sp.cy m n 3) + ((Sp.dgt m 3) + (Sp.dgt n 3)))), (6, .int .i64 3), (7, .int .i64 3), (8, .bool true)] [(1, ⟨[.int .u64 (Sp.dgt (m + n) 0), .int .u64 (Sp.dgt (m + n) 1), .int .u64 (Sp.dgt (m + n) 2), .int .u64 (Sp.dgt m 3), .int .u64 (Sp.dgt m 4), .int .u64 (Sp.dgt m 5), .int .u64 (Sp.dgt m 6)], 27, true, 1⟩), (2, ⟨(lds n), 27, true, 1⟩), (3, ⟨[.int .u64 0, .int .u64 0, .int .u64 0, .int .u64 0, .int .u64 0, .int .u64 0, .int .u64 0], 27, true, 1⟩)] ?_
  refine aw_p 15343 (
    .a 2 4 <| .p (does_i (Sp.dgt (m + n) 3) ((Sp.umod (Sp.plus_bd2 m n 3).1).trans ((Sp.dgt_add m n 3).symm)) .u64) <| .a 2 4 <| .nil _ _) ?_
  refine aw_p1 (
    .a 1 4 <| .p (does_i (Sp.cy m n 4) ((Sp.ufd (by decide)).trans ((Sp.cy_succ m n 3).symm)) .u64) <| .a 1 4 <| .nil _ _) ?_
  refine block_normal ?_
  refine then_normal ?_
  refine aw_p1 (
    .a 2 4 <| .nil _ _) ?_
  refine then_normal ?_
  refine al_round ?_
  refine aw_p 239 (
    .a 1 4 <| .nil _ _) ?_
  refine aw_sq 478 479 ?_
  refine aw_tr 956 ?_
  refine aw_sk ?_
  refine then_normal ?_
  refine aw_sq 958 959 ?_
  refine aw_bl 1 1917 ?_
  refine aw_p 3835 (
    .a 2 4 <| .nil _ _) ?_
  refine aw_d 7671 (
    .a 7 4 <| .p (does_i ((Sp.dgt m 4) + (Sp.dgt n 4)) (wrap_u64 (Sp.plus_bd1 m n 4).1 (Sp.plus_bd1 m n 4).2) .u64) <| .p (does_i ((Sp.cy m n 4) + ((Sp.dgt m 4) + (Sp.dgt n 4))) (wrap_u64 (Sp.plus_bd2 m n 4).1 (Sp.plus_bd2 m n 4).2) .u64) <| .a 1 4 <| .nil _ _) ?_
  refine aw_p 15343 (
    .a 2 4 <| .p (does_i (Sp.dgt (m + n) 4) ((Sp.umod (Sp.plus_bd2 m n 4).1).trans ((Sp.dgt_add m n 4).symm)) .u64) <| .a 2 4 <| .nil _ _) ?_
  refine aw_w [(2, .pointer (some ⟨1, 0, none⟩)), (3, .pointer (some ⟨2, 0, none⟩)), (4, .pointer (some ⟨3, 0, none⟩)), (5, .int .u64 ((Sp.cy m n 4) + ((Sp.dgt m 4) + (Sp.dgt n 4)))), (6, .int .i64 4), (7, .int .i64 4), (8, .bool true)] [(1, ⟨[.int .u64 (Sp.dgt (m + n) 0), .int .u64 (Sp.dgt (m + n) 1), .int .u64 (Sp.dgt (m + n) 2), .int .u64 (Sp.dgt (m + n) 3), .int .u64 (Sp.dgt (m + n) 4), .int .u64 (Sp.dgt m 5), .int .u64 (Sp.dgt m 6)], 27, true, 1⟩), (2, ⟨(lds n), 27, true, 1⟩), (3, ⟨[.int .u64 0, .int .u64 0, .int .u64 0, .int .u64 0, .int .u64 0, .int .u64 0, .int .u64 0], 27, true, 1⟩)] ?_
  refine aw_p1 (
    .a 1 4 <| .p (does_i (Sp.cy m n 5) ((Sp.ufd (by decide)).trans ((Sp.cy_succ m n 4).symm)) .u64) <| .a 1 4 <| .nil _ _) ?_
  refine block_normal ?_
  refine then_normal ?_
  refine aw_p1 (
    .a 2 4 <| .nil _ _) ?_
  refine then_normal ?_
  refine al_round ?_
  refine aw_p 239 (
    .a 1 4 <| .nil _ _) ?_
  refine aw_sq 478 479 ?_
  refine aw_tr 956 ?_
  refine aw_sk ?_
  refine then_normal ?_
  refine aw_sq 958 959 ?_
  refine aw_bl 1 1917 ?_
  refine aw_p 3835 (
    .a 2 4 <| .nil _ _) ?_
  refine aw_d 7671 (
    .a 7 4 <| .p (does_i ((Sp.dgt m 5) + (Sp.dgt n 5)) (wrap_u64 (Sp.plus_bd1 m n 5).1 (Sp.plus_bd1 m n 5).2) .u64) <| .p (does_i ((Sp.cy m n 5) + ((Sp.dgt m 5) + (Sp.dgt n 5))) (wrap_u64 (Sp.plus_bd2 m n 5).1 (Sp.plus_bd2 m n 5).2) .u64) <| .a 1 4 <| .nil _ _) ?_
  refine aw_p 15343 (
    .a 2 4 <| .p (does_i (Sp.dgt (m + n) 5) ((Sp.umod (Sp.plus_bd2 m n 5).1).trans ((Sp.dgt_add m n 5).symm)) .u64) <| .a 2 4 <| .nil _ _) ?_
  refine aw_p1 (
    .a 1 4 <| .p (does_i (Sp.cy m n 6) ((Sp.ufd (by decide)).trans ((Sp.cy_succ m n 5).symm)) .u64) <| .a 1 4 <| .nil _ _) ?_
  refine block_normal ?_
  refine then_normal ?_
  refine aw_p1 (
    .a 2 4 <| .nil _ _) ?_
  refine then_normal ?_
  refine al_round ?_
  refine aw_p 239 (
    .a 1 4 <| .nil _ _) ?_
  refine aw_w [(2, .pointer (some ⟨1, 0, none⟩)), (3, .pointer (some ⟨2, 0, none⟩)), (4, .pointer (some ⟨3, 0, none⟩)), (5, .int .u64 (Sp.cy m n 6)), (6, .int .i64 5), (7, .int .i64 6), (8, .bool true)] [(1, ⟨[.int .u64 (Sp.dgt (m + n) 0), .int .u64 (Sp.dgt (m + n) 1), .int .u64 (Sp.dgt (m + n) 2), .int .u64 (Sp.dgt (m + n) 3), .int .u64 (Sp.dgt (m + n) 4), .int .u64 (Sp.dgt (m + n) 5), .int .u64 (Sp.dgt m 6)], 27, true, 1⟩), (2, ⟨(lds n), 27, true, 1⟩), (3, ⟨[.int .u64 0, .int .u64 0, .int .u64 0, .int .u64 0, .int .u64 0, .int .u64 0, .int .u64 0], 27, true, 1⟩)] ?_
  refine aw_sq 478 479 ?_
  refine aw_tr 956 ?_
  refine aw_sk ?_
  refine then_normal ?_
  refine aw_sq 958 959 ?_
  refine aw_bl 1 1917 ?_
  refine aw_p 3835 (
    .a 2 4 <| .nil _ _) ?_
  refine aw_d 7671 (
    .a 7 4 <| .p (does_i ((Sp.dgt m 6) + (Sp.dgt n 6)) (wrap_u64 (Sp.plus_bd1 m n 6).1 (Sp.plus_bd1 m n 6).2) .u64) <| .p (does_i ((Sp.cy m n 6) + ((Sp.dgt m 6) + (Sp.dgt n 6))) (wrap_u64 (Sp.plus_bd2 m n 6).1 (Sp.plus_bd2 m n 6).2) .u64) <| .a 1 4 <| .nil _ _) ?_
  refine aw_p 15343 (
    .a 2 4 <| .p (does_i (Sp.dgt (m + n) 6) ((Sp.umod (Sp.plus_bd2 m n 6).1).trans ((Sp.dgt_add m n 6).symm)) .u64) <| .a 2 4 <| .nil _ _) ?_
  refine aw_p1 (
    .a 1 4 <| .p (does_i (Sp.cy m n 7) ((Sp.ufd (by decide)).trans ((Sp.cy_succ m n 6).symm)) .u64) <| .a 1 4 <| .nil _ _) ?_
  refine block_normal ?_
  refine then_normal ?_
  refine aw_p1 (
    .a 2 4 <| .nil _ _) ?_
  refine then_normal ?_
  refine al_round ?_
  refine aw_p 239 (
    .a 1 4 <| .nil _ _) ?_
  refine aw_sq 478 479 ?_
  refine aw_fl 957 ?_
  refine aw_ex 0 ?_
  refine then_exit ?_
  refine then_exit ?_
  refine block_exit ?_
  refine then_normal ?_
  refine aw_p 31 (
    .a 2 4 <| .nil _ _) ?_
  refine aw_w [(4, .pointer (some ⟨3, 0, none⟩))] [(3, ⟨(lds (m + n)), 27, true, 1⟩)] ?_
  refine aw_rt ?_
  exact en_ret [lval (m + n)] (by kernel_rfl)

theorem lneg_ok (n : Int) :
    AC Tryd.prog 42 0 ([lval n]) [] (lval (-n)) [] := by
  refine ac_in Tryd.func42 (fun w0 W pin => ?_)
  refine aw_p 3 (
    .a 2 1 <| .nil _ _) ?_
  refine aw_sq 6 7 ?_
  refine aw_p 13 (
    .a 1 3 <| .nil _ _) ?_
  refine aw_bl 0 27 ?_
  refine aw_lp 55 ?_
  refine al_round ?_
  refine aw_p 111 (
    .a 1 3 <| .nil _ _) ?_
  refine aw_sq 222 223 ?_
  refine aw_tr 444 ?_
  refine aw_sk ?_
  refine then_normal ?_
  refine aw_sq 446 447 ?_
  refine aw_bl 1 893 ?_
  refine aw_p 1787 (
    .a 2 3 <| .nil _ _) ?_
  refine aw_p1 (
    .a 3 3 <| .p (does_i (Sp.dgt (-1 - n) 0) (Sp.neg_dig n 0) .u64) <| .a 2 3 <| .nil _ _) ?_
  refine block_normal ?_
  refine then_normal ?_
  refine aw_p1 (
    .a 2 3 <| .nil _ _) ?_
  refine then_normal ?_
  refine al_round ?_
  refine aw_p 111 (
    .a 1 3 <| .nil _ _) ?_
  refine aw_sq 222 223 ?_
  refine aw_tr 444 ?_
  refine aw_sk ?_
  refine then_normal ?_
  refine aw_sq 446 447 ?_
  refine aw_bl 1 893 ?_
  refine aw_p 1787 (
    .a 2 3 <| .nil _ _) ?_
  refine aw_p1 (
    .a 3 3 <| .p (does_i (Sp.dgt (-1 - n) 1) (Sp.neg_dig n 1) .u64) <| .a 2 3 <| .nil _ _) ?_
  refine block_normal ?_
  refine then_normal ?_
  refine aw_p1 (
    .a 2 3 <| .nil _ _) ?_
  refine then_normal ?_
  refine al_round ?_
  refine aw_p 111 (
    .a 1 3 <| .nil _ _) ?_
  refine aw_w [(1, .pointer (some ⟨1, 0, none⟩)), (2, .pointer (some ⟨2, 0, none⟩)), (3, .int .i64 1), (4, .int .i64 2), (5, .bool true)] [(1, ⟨[.int .u64 (Sp.dgt (-1 - n) 0), .int .u64 (Sp.dgt (-1 - n) 1), .int .u64 (Sp.dgt n 2), .int .u64 (Sp.dgt n 3), .int .u64 (Sp.dgt n 4), .int .u64 (Sp.dgt n 5), .int .u64 (Sp.dgt n 6)], 27, true, 1⟩), (2, ⟨[.int .u64 0, .int .u64 0, .int .u64 0, .int .u64 0, .int .u64 0, .int .u64 0, .int .u64 0], 27, true, 1⟩)] ?_
  refine aw_sq 222 223 ?_
  refine aw_tr 444 ?_
  refine aw_sk ?_
  refine then_normal ?_
  refine aw_sq 446 447 ?_
  refine aw_bl 1 893 ?_
  refine aw_p 1787 (
    .a 2 3 <| .nil _ _) ?_
  refine aw_p1 (
    .a 3 3 <| .p (does_i (Sp.dgt (-1 - n) 2) (Sp.neg_dig n 2) .u64) <| .a 2 3 <| .nil _ _) ?_
  refine block_normal ?_
  refine then_normal ?_
  refine aw_p1 (
    .a 2 3 <| .nil _ _) ?_
  refine then_normal ?_
  refine al_round ?_
  refine aw_p 111 (
    .a 1 3 <| .nil _ _) ?_
  refine aw_sq 222 223 ?_
  refine aw_tr 444 ?_
  refine aw_sk ?_
  refine then_normal ?_
  refine aw_sq 446 447 ?_
  refine aw_bl 1 893 ?_
  refine aw_p 1787 (
    .a 2 3 <| .nil _ _) ?_
  refine aw_p1 (
    .a 3 3 <| .p (does_i (Sp.dgt (-1 - n) 3) (Sp.neg_dig n 3) .u64) <| .a 2 3 <| .nil _ _) ?_
  refine block_normal ?_
  refine then_normal ?_
  refine aw_p1 (
    .a 2 3 <| .nil _ _) ?_
  refine then_normal ?_
  refine al_round ?_
  refine aw_p 111 (
    .a 1 3 <| .nil _ _) ?_
  refine aw_sq 222 223 ?_
  refine aw_tr 444 ?_
  refine aw_sk ?_
  refine then_normal ?_
  refine aw_sq 446 447 ?_
  refine aw_bl 1 893 ?_
  refine aw_p 1787 (
    .a 2 3 <| .nil _ _) ?_
  refine aw_p1 (
    .a 3 3 <| .p (does_i (Sp.dgt (-1 - n) 4) (Sp.neg_dig n 4) .u64) <| .a 2 3 <| .nil _ _) ?_
  refine block_normal ?_
  refine then_normal ?_
  refine aw_p1 (
    .a 2 3 <| .nil _ _) ?_
  refine then_normal ?_
  refine al_round ?_
  refine aw_p 111 (
    .a 1 3 <| .nil _ _) ?_
  refine aw_w [(1, .pointer (some ⟨1, 0, none⟩)), (2, .pointer (some ⟨2, 0, none⟩)), (3, .int .i64 4), (4, .int .i64 5), (5, .bool true)] [(1, ⟨[.int .u64 (Sp.dgt (-1 - n) 0), .int .u64 (Sp.dgt (-1 - n) 1), .int .u64 (Sp.dgt (-1 - n) 2), .int .u64 (Sp.dgt (-1 - n) 3), .int .u64 (Sp.dgt (-1 - n) 4), .int .u64 (Sp.dgt n 5), .int .u64 (Sp.dgt n 6)], 27, true, 1⟩), (2, ⟨[.int .u64 0, .int .u64 0, .int .u64 0, .int .u64 0, .int .u64 0, .int .u64 0, .int .u64 0], 27, true, 1⟩)] ?_
  refine aw_sq 222 223 ?_
  refine aw_tr 444 ?_
  refine aw_sk ?_
  refine then_normal ?_
  refine aw_sq 446 447 ?_
  refine aw_bl 1 893 ?_
  refine aw_p 1787 (
    .a 2 3 <| .nil _ _) ?_
  refine aw_p1 (
    .a 3 3 <| .p (does_i (Sp.dgt (-1 - n) 5) (Sp.neg_dig n 5) .u64) <| .a 2 3 <| .nil _ _) ?_
  refine block_normal ?_
  refine then_normal ?_
  refine aw_p1 (
    .a 2 3 <| .nil _ _) ?_
  refine then_normal ?_
  refine al_round ?_
  refine aw_p 111 (
    .a 1 3 <| .nil _ _) ?_
  refine aw_sq 222 223 ?_
  refine aw_tr 444 ?_
  refine aw_sk ?_
  refine then_normal ?_
  refine aw_sq 446 447 ?_
  refine aw_bl 1 893 ?_
  refine aw_p 1787 (
    .a 2 3 <| .nil _ _) ?_
  refine aw_p1 (
    .a 3 3 <| .p (does_i (Sp.dgt (-1 - n) 6) (Sp.neg_dig n 6) .u64) <| .a 2 3 <| .nil _ _) ?_
  refine block_normal ?_
  refine then_normal ?_
  refine aw_p1 (
    .a 2 3 <| .nil _ _) ?_
  refine then_normal ?_
  refine al_round ?_
  refine aw_p 111 (
    .a 1 3 <| .nil _ _) ?_
  refine aw_sq 222 223 ?_
  refine aw_fl 445 ?_
  refine aw_ex 0 ?_
  refine then_exit ?_
  refine then_exit ?_
  refine block_exit ?_
  refine then_normal ?_
  refine aw_p 15 (
    .a 2 3 <| .p (does_c (lplus_ok (-1 - n) 1)) <| .a 1 3 <| .nil _ _) ?_
  refine aw_w [(2, .pointer (some ⟨2, 0, none⟩))] [(2, ⟨(lds ((-1 - n) + 1)), 27, true, 1⟩)] ?_
  refine aw_rt ?_
  exact en_ret [lval ((-1 - n) + 1)] (show (lval ((-1 - n) + 1) : Value) = (lval (-n)) from (congrArg (fun z : List Value => Value.agg z.toArray) (lcons (congrArg (Value.int .u64) (show (Sp.dgt ((-1 - n) + 1) 0) = (Sp.dgt (-n) 0) from by (rw [show -1 - n + 1 = -n by omega]))) (lcons (congrArg (Value.int .u64) (show (Sp.dgt ((-1 - n) + 1) 1) = (Sp.dgt (-n) 1) from by (rw [show -1 - n + 1 = -n by omega]))) (lcons (congrArg (Value.int .u64) (show (Sp.dgt ((-1 - n) + 1) 2) = (Sp.dgt (-n) 2) from by (rw [show -1 - n + 1 = -n by omega]))) (lcons (congrArg (Value.int .u64) (show (Sp.dgt ((-1 - n) + 1) 3) = (Sp.dgt (-n) 3) from by (rw [show -1 - n + 1 = -n by omega]))) (lcons (congrArg (Value.int .u64) (show (Sp.dgt ((-1 - n) + 1) 4) = (Sp.dgt (-n) 4) from by (rw [show -1 - n + 1 = -n by omega]))) (lcons (congrArg (Value.int .u64) (show (Sp.dgt ((-1 - n) + 1) 5) = (Sp.dgt (-n) 5) from by (rw [show -1 - n + 1 = -n by omega]))) (lcons (congrArg (Value.int .u64) (show (Sp.dgt ((-1 - n) + 1) 6) = (Sp.dgt (-n) 6) from by (rw [show -1 - n + 1 = -n by omega]))) rfl)))))))))

theorem lminus_ok (m n : Int) :
    AC Tryd.prog 57 0 ([lval m, lval n]) [] (lval (m - n)) [] := by
  refine ac_in Tryd.func57 (fun w0 W pin => ?_)
  refine aw_p 3 (
    .a 3 1 <| .nil _ _) ?_
  refine aw_d 7 (
    .a 2 4 <| .p (does_c (lneg_ok n)) <| .p (does_c (lplus_ok m (-n))) <| .a 1 4 <| .nil _ _) ?_
  refine aw_rt ?_
  exact en_ret [lval (m + (-n))] (show (lval (m + (-n)) : Value) = (lval (m - n)) from (congrArg (fun z : List Value => Value.agg z.toArray) (lcons (congrArg (Value.int .u64) (show (Sp.dgt (m + (-n)) 0) = (Sp.dgt (m - n) 0) from by (rw [show m + -n = m - n by omega]))) (lcons (congrArg (Value.int .u64) (show (Sp.dgt (m + (-n)) 1) = (Sp.dgt (m - n) 1) from by (rw [show m + -n = m - n by omega]))) (lcons (congrArg (Value.int .u64) (show (Sp.dgt (m + (-n)) 2) = (Sp.dgt (m - n) 2) from by (rw [show m + -n = m - n by omega]))) (lcons (congrArg (Value.int .u64) (show (Sp.dgt (m + (-n)) 3) = (Sp.dgt (m - n) 3) from by (rw [show m + -n = m - n by omega]))) (lcons (congrArg (Value.int .u64) (show (Sp.dgt (m + (-n)) 4) = (Sp.dgt (m - n) 4) from by (rw [show m + -n = m - n by omega]))) (lcons (congrArg (Value.int .u64) (show (Sp.dgt (m + (-n)) 5) = (Sp.dgt (m - n) 5) from by (rw [show m + -n = m - n by omega]))) (lcons (congrArg (Value.int .u64) (show (Sp.dgt (m + (-n)) 6) = (Sp.dgt (m - n) 6) from by (rw [show m + -n = m - n by omega]))) rfl)))))))))

theorem ltwice_ok (n : Int) :
    AC Tryd.prog 58 0 ([lval n]) [] (lval (2 * n)) [] := by
  refine ac_in Tryd.func58 (fun w0 W pin => ?_)
  refine aw_p 3 (
    .a 2 1 <| .nil _ _) ?_
  refine aw_p 7 (
    .a 2 3 <| .p (does_c (lplus_ok n n)) <| .a 1 3 <| .nil _ _) ?_
  refine aw_rt ?_
  exact en_ret [lval (n + n)] (show (lval (n + n) : Value) = (lval (2 * n)) from (congrArg (fun z : List Value => Value.agg z.toArray) (lcons (congrArg (Value.int .u64) (show (Sp.dgt (n + n) 0) = (Sp.dgt (2 * n) 0) from by (rw [show n + n = 2 * n by omega]))) (lcons (congrArg (Value.int .u64) (show (Sp.dgt (n + n) 1) = (Sp.dgt (2 * n) 1) from by (rw [show n + n = 2 * n by omega]))) (lcons (congrArg (Value.int .u64) (show (Sp.dgt (n + n) 2) = (Sp.dgt (2 * n) 2) from by (rw [show n + n = 2 * n by omega]))) (lcons (congrArg (Value.int .u64) (show (Sp.dgt (n + n) 3) = (Sp.dgt (2 * n) 3) from by (rw [show n + n = 2 * n by omega]))) (lcons (congrArg (Value.int .u64) (show (Sp.dgt (n + n) 4) = (Sp.dgt (2 * n) 4) from by (rw [show n + n = 2 * n by omega]))) (lcons (congrArg (Value.int .u64) (show (Sp.dgt (n + n) 5) = (Sp.dgt (2 * n) 5) from by (rw [show n + n = 2 * n by omega]))) (lcons (congrArg (Value.int .u64) (show (Sp.dgt (n + n) 6) = (Sp.dgt (2 * n) 6) from by (rw [show n + n = 2 * n by omega]))) rfl)))))))))

theorem lsign_ok (n : Int) (z0 : -13479973333575319897333507543509815336818572211270286240551805124608 ≤ n) (z1 : n < 13479973333575319897333507543509815336818572211270286240551805124608) :
    AC Tryd.prog 25 0 ([lval n]) [] (.int .i64 (Sp.sgn n)) [] := by
  refine ac_in Tryd.func25 (fun w0 W pin => ?_)
  refine aw_p 3 (
    .a 2 1 <| .nil _ _) ?_
  refine aw_sq 6 7 ?_
  refine aw_bl 0 13 ?_
  refine aw_p 27 (
    .a 2 2 <| .p (does_e (decide (n = 0)) (Sp.zero_dig z0 z1)) <| .a 1 2 <| .nil _ _) ?_
  refine aw_cd 54 55 (decide (n = 0)) (fun h1 => ?_) (fun h1 => ?_)
  · have h1p : ((n = 0)) := by first | (simpa using h1) | (have h1q := h1; simp at h1q; omega) | (have h1q := bx1 h1; simp at h1q; omega)
    refine aw_p 109 (
      .a 1 2 <| .nil _ _) ?_
    refine aw_rt ?_
    refine block_ret ?_
    refine then_ret ?_
    exact en_ret [.int .i64 0] (show (.int .i64 0 : Value) = (.int .i64 (Sp.sgn n)) from (congrArg (Value.int .i64) (show 0 = (Sp.sgn n) from by (simp only [Sp.sgn]; (repeat' split) <;> omega))))
  · have h1p : ¬ ((n = 0)) := by first | (simpa using h1) | (have h1q := h1; simp at h1q; omega) | (have h1q := bx2 h1; simp at h1q; omega)
    refine aw_p 111 (
      .a 2 2 <| .p (does_i ((Sp.dgt n 6) / 2147483648) (Sp.ufd (by decide)) .u64) <| .p (does_b (decide (n < 0)) (Sp.sign_dig z0 z1)) <| .a 1 2 <| .nil _ _) ?_
    refine aw_cd 222 223 (decide (n < 0)) (fun h2 => ?_) (fun h2 => ?_)
    · have h2p : ((n < 0)) := by first | (simpa using h2) | (have h2q := h2; simp at h2q; omega) | (have h2q := bx1 h2; simp at h2q; omega)
      refine aw_p 445 (
        .a 1 2 <| .nil _ _) ?_
      refine aw_rt ?_
      refine block_ret ?_
      refine then_ret ?_
      exact en_ret [.int .i64 (-1)] (show (.int .i64 (-1) : Value) = (.int .i64 (Sp.sgn n)) from (congrArg (Value.int .i64) (show (-1) = (Sp.sgn n) from by (simp only [Sp.sgn]; (repeat' split) <;> omega))))
    · have h2p : ¬ ((n < 0)) := by first | (simpa using h2) | (have h2q := h2; simp at h2q; omega) | (have h2q := bx2 h2; simp at h2q; omega)
      refine aw_sk ?_
      refine block_normal ?_
      refine then_normal ?_
      refine aw_p 15 (
        .a 1 2 <| .nil _ _) ?_
      refine aw_rt ?_
      exact en_ret [.int .i64 1] (show (.int .i64 1 : Value) = (.int .i64 (Sp.sgn n)) from (congrArg (Value.int .i64) (show 1 = (Sp.sgn n) from by (simp only [Sp.sgn]; (repeat' split) <;> omega))))

theorem lsize_ok (n : Int) (z0 : -13479973333575319897333507543509815336818572211270286240551805124608 ≤ n) (z1 : n < 13479973333575319897333507543509815336818572211270286240551805124608) :
    AC Tryd.prog 24 0 ([lval n]) [] (lval (n.natAbs : Int)) [] := by
  refine ac_in Tryd.func24 (fun w0 W pin => ?_)
  refine aw_p 3 (
    .a 2 1 <| .nil _ _) ?_
  refine aw_sq 6 7 ?_
  refine aw_p 13 (
    .a 1 3 <| .p (does_c (lsign_ok n (by omega) (by omega))) <| .p (does_b (decide (n < 0)) (Sp.sgn_neg n)) <| .nil _ _) ?_
  refine aw_cd 26 27 (decide (n < 0)) (fun h1 => ?_) (fun h1 => ?_)
  · have h1p : ((n < 0)) := by first | (simpa using h1) | (have h1q := h1; simp at h1q; omega) | (have h1q := bx1 h1; simp at h1q; omega)
    refine aw_p 53 (
      .a 1 3 <| .p (does_c (lneg_ok n)) <| .a 1 3 <| .nil _ _) ?_
    refine aw_rt ?_
    refine then_ret ?_
    exact en_ret [lval (-n)] (show (lval (-n) : Value) = (lval (n.natAbs : Int)) from (congrArg (fun z : List Value => Value.agg z.toArray) (lcons (congrArg (Value.int .u64) (show (Sp.dgt (-n) 0) = (Sp.dgt (n.natAbs : Int) 0) from by (first | (rw [show (n.natAbs : Int) = -n by omega]) | (rw [show (n.natAbs : Int) = n by omega])))) (lcons (congrArg (Value.int .u64) (show (Sp.dgt (-n) 1) = (Sp.dgt (n.natAbs : Int) 1) from by (first | (rw [show (n.natAbs : Int) = -n by omega]) | (rw [show (n.natAbs : Int) = n by omega])))) (lcons (congrArg (Value.int .u64) (show (Sp.dgt (-n) 2) = (Sp.dgt (n.natAbs : Int) 2) from by (first | (rw [show (n.natAbs : Int) = -n by omega]) | (rw [show (n.natAbs : Int) = n by omega])))) (lcons (congrArg (Value.int .u64) (show (Sp.dgt (-n) 3) = (Sp.dgt (n.natAbs : Int) 3) from by (first | (rw [show (n.natAbs : Int) = -n by omega]) | (rw [show (n.natAbs : Int) = n by omega])))) (lcons (congrArg (Value.int .u64) (show (Sp.dgt (-n) 4) = (Sp.dgt (n.natAbs : Int) 4) from by (first | (rw [show (n.natAbs : Int) = -n by omega]) | (rw [show (n.natAbs : Int) = n by omega])))) (lcons (congrArg (Value.int .u64) (show (Sp.dgt (-n) 5) = (Sp.dgt (n.natAbs : Int) 5) from by (first | (rw [show (n.natAbs : Int) = -n by omega]) | (rw [show (n.natAbs : Int) = n by omega])))) (lcons (congrArg (Value.int .u64) (show (Sp.dgt (-n) 6) = (Sp.dgt (n.natAbs : Int) 6) from by (first | (rw [show (n.natAbs : Int) = -n by omega]) | (rw [show (n.natAbs : Int) = n by omega])))) rfl)))))))))
  · have h1p : ¬ ((n < 0)) := by first | (simpa using h1) | (have h1q := h1; simp at h1q; omega) | (have h1q := bx2 h1; simp at h1q; omega)
    refine aw_sk ?_
    refine then_normal ?_
    refine aw_p 15 (
      .a 2 3 <| .nil _ _) ?_
    refine aw_rt ?_
    exact en_ret [lval n] (show (lval n : Value) = (lval (n.natAbs : Int)) from (congrArg (fun z : List Value => Value.agg z.toArray) (lcons (congrArg (Value.int .u64) (show (Sp.dgt n 0) = (Sp.dgt (n.natAbs : Int) 0) from by (first | (rw [show (n.natAbs : Int) = -n by omega]) | (rw [show (n.natAbs : Int) = n by omega])))) (lcons (congrArg (Value.int .u64) (show (Sp.dgt n 1) = (Sp.dgt (n.natAbs : Int) 1) from by (first | (rw [show (n.natAbs : Int) = -n by omega]) | (rw [show (n.natAbs : Int) = n by omega])))) (lcons (congrArg (Value.int .u64) (show (Sp.dgt n 2) = (Sp.dgt (n.natAbs : Int) 2) from by (first | (rw [show (n.natAbs : Int) = -n by omega]) | (rw [show (n.natAbs : Int) = n by omega])))) (lcons (congrArg (Value.int .u64) (show (Sp.dgt n 3) = (Sp.dgt (n.natAbs : Int) 3) from by (first | (rw [show (n.natAbs : Int) = -n by omega]) | (rw [show (n.natAbs : Int) = n by omega])))) (lcons (congrArg (Value.int .u64) (show (Sp.dgt n 4) = (Sp.dgt (n.natAbs : Int) 4) from by (first | (rw [show (n.natAbs : Int) = -n by omega]) | (rw [show (n.natAbs : Int) = n by omega])))) (lcons (congrArg (Value.int .u64) (show (Sp.dgt n 5) = (Sp.dgt (n.natAbs : Int) 5) from by (first | (rw [show (n.natAbs : Int) = -n by omega]) | (rw [show (n.natAbs : Int) = n by omega])))) (lcons (congrArg (Value.int .u64) (show (Sp.dgt n 6) = (Sp.dgt (n.natAbs : Int) 6) from by (first | (rw [show (n.natAbs : Int) = -n by omega]) | (rw [show (n.natAbs : Int) = n by omega])))) rfl)))))))))

theorem lhalf_ok (n : Int) (z0 : 0 ≤ n) (z1 : n < 26959946667150639794667015087019630673637144422540572481103610249216) :
    AC Tryd.prog 56 0 ([lval n]) [] (lval (n / 2)) [] := by
  refine ac_in Tryd.func56 (fun w0 W pin => ?_)
  refine aw_p 3 (
    .a 2 1 <| .nil _ _) ?_
  refine aw_sq 6 7 ?_
  refine aw_p 13 (
    .a 1 3 <| .nil _ _) ?_
  refine aw_bl 0 27 ?_
  refine aw_lp 55 ?_
  refine al_round ?_
  refine aw_p 111 (
    .a 1 3 <| .nil _ _) ?_
  refine aw_sq 222 223 ?_
  refine aw_tr 444 ?_
  refine aw_sk ?_
  refine then_normal ?_
  refine aw_sq 446 447 ?_
  refine aw_bl 1 893 ?_
  refine aw_p 1787 (
    .a 2 3 <| .nil _ _) ?_
  refine aw_p 3575 (
    .a 3 3 <| .p (does_i ((Sp.dgt n 0) / 2) (Sp.uquo (Sp.dgt_bd n 0).1 (by have := Sp.dgt_bd n 0; omega) (by decide)) .u64) <| .a 2 3 <| .nil _ _) ?_
  refine aw_p 7151 (
    .a 3 3 <| .nil _ _) ?_
  refine aw_tr 14302 ?_
  refine aw_d1 (
    .a 7 3 <| .p (does_i ((Sp.dgt n 1) % 2) (Sp.umod (Sp.dgt_bd n 1).1) .u64) <| .p (does_i (((Sp.dgt n 1) % 2) * 2147483648) (wrap_u64 (by have := Sp.dgt_bd n 1; omega) (by have := Sp.dgt_bd n 1; omega)) .u64) <|
    .p (does_i (Sp.dgt (n / 2) 0) ((show (IntKind.wrap .u64 (((Sp.dgt n 0) / 2) + (((Sp.dgt n 1) % 2) * 2147483648))) = (Sp.dgt (n / 2) 0) from (by have q1 := Sp.dgt_bd n 0; have q2 := Sp.dgt_bd n 1; rw [wrap_u64 (by omega) (by omega)]; exact Sp.half_dig n 0))) .u64) <| .a 2 3 <| .nil _ _) ?_
  refine block_normal ?_
  refine then_normal ?_
  refine aw_p1 (
    .a 2 3 <| .nil _ _) ?_
  refine then_normal ?_
  refine al_round ?_
  refine aw_p 111 (
    .a 1 3 <| .nil _ _) ?_
  refine aw_w [(1, .pointer (some ⟨1, 0, none⟩)), (2, .pointer (some ⟨2, 0, none⟩)), (3, .int .i64 0), (4, .int .i64 1), (5, .bool true), (14, .bool true)] [(1, ⟨[.int .u64 (Sp.dgt (n / 2) 0), .int .u64 (Sp.dgt n 1), .int .u64 (Sp.dgt n 2), .int .u64 (Sp.dgt n 3), .int .u64 (Sp.dgt n 4), .int .u64 (Sp.dgt n 5), .int .u64 (Sp.dgt n 6)], 27, true, 1⟩), (2, ⟨[.int .u64 0, .int .u64 0, .int .u64 0, .int .u64 0, .int .u64 0, .int .u64 0, .int .u64 0], 27, true, 1⟩)] ?_
  refine aw_sq 222 223 ?_
  refine aw_tr 444 ?_
  refine aw_sk ?_
  refine then_normal ?_
  refine aw_sq 446 447 ?_
  refine aw_bl 1 893 ?_
  refine aw_p 1787 (
    .a 2 3 <| .nil _ _) ?_
  refine aw_p 3575 (
    .a 3 3 <| .p (does_i ((Sp.dgt n 1) / 2) (Sp.uquo (Sp.dgt_bd n 1).1 (by have := Sp.dgt_bd n 1; omega) (by decide)) .u64) <| .a 2 3 <| .nil _ _) ?_
  refine aw_p 7151 (
    .a 3 3 <| .nil _ _) ?_
  refine aw_tr 14302 ?_
  refine aw_d1 (
    .a 7 3 <| .p (does_i ((Sp.dgt n 2) % 2) (Sp.umod (Sp.dgt_bd n 2).1) .u64) <| .p (does_i (((Sp.dgt n 2) % 2) * 2147483648) (wrap_u64 (by have := Sp.dgt_bd n 2; omega) (by have := Sp.dgt_bd n 2; omega)) .u64) <|
    .p (does_i (Sp.dgt (n / 2) 1) ((show (IntKind.wrap .u64 (((Sp.dgt n 1) / 2) + (((Sp.dgt n 2) % 2) * 2147483648))) = (Sp.dgt (n / 2) 1) from (by have q1 := Sp.dgt_bd n 1; have q2 := Sp.dgt_bd n 2; rw [wrap_u64 (by omega) (by omega)]; exact Sp.half_dig n 1))) .u64) <| .a 2 3 <| .nil _ _) ?_
  refine block_normal ?_
  refine then_normal ?_
  refine aw_p1 (
    .a 2 3 <| .nil _ _) ?_
  refine then_normal ?_
  refine al_round ?_
  refine aw_p 111 (
    .a 1 3 <| .nil _ _) ?_
  refine aw_w [(1, .pointer (some ⟨1, 0, none⟩)), (2, .pointer (some ⟨2, 0, none⟩)), (3, .int .i64 1), (4, .int .i64 2), (5, .bool true), (14, .bool true)] [(1, ⟨[.int .u64 (Sp.dgt (n / 2) 0), .int .u64 (Sp.dgt (n / 2) 1), .int .u64 (Sp.dgt n 2), .int .u64 (Sp.dgt n 3), .int .u64 (Sp.dgt n 4), .int .u64 (Sp.dgt n 5), .int .u64 (Sp.dgt n 6)], 27, true, 1⟩), (2, ⟨[.int .u64 0, .int .u64 0, .int .u64 0, .int .u64 0, .int .u64 0, .int .u64 0, .int .u64 0], 27, true, 1⟩)] ?_
  refine aw_sq 222 223 ?_
  refine aw_tr 444 ?_
  refine aw_sk ?_
  refine then_normal ?_
  refine aw_sq 446 447 ?_
  refine aw_bl 1 893 ?_
  refine aw_p 1787 (
    .a 2 3 <| .nil _ _) ?_
  refine aw_p 3575 (
    .a 3 3 <| .p (does_i ((Sp.dgt n 2) / 2) (Sp.uquo (Sp.dgt_bd n 2).1 (by have := Sp.dgt_bd n 2; omega) (by decide)) .u64) <| .a 2 3 <| .nil _ _) ?_
  refine aw_p 7151 (
    .a 3 3 <| .nil _ _) ?_
  refine aw_tr 14302 ?_
  refine aw_d1 (
    .a 7 3 <| .p (does_i ((Sp.dgt n 3) % 2) (Sp.umod (Sp.dgt_bd n 3).1) .u64) <| .p (does_i (((Sp.dgt n 3) % 2) * 2147483648) (wrap_u64 (by have := Sp.dgt_bd n 3; omega) (by have := Sp.dgt_bd n 3; omega)) .u64) <|
    .p (does_i (Sp.dgt (n / 2) 2) ((show (IntKind.wrap .u64 (((Sp.dgt n 2) / 2) + (((Sp.dgt n 3) % 2) * 2147483648))) = (Sp.dgt (n / 2) 2) from (by have q1 := Sp.dgt_bd n 2; have q2 := Sp.dgt_bd n 3; rw [wrap_u64 (by omega) (by omega)]; exact Sp.half_dig n 2))) .u64) <| .a 2 3 <| .nil _ _) ?_
  refine block_normal ?_
  refine then_normal ?_
  refine aw_p1 (
    .a 2 3 <| .nil _ _) ?_
  refine then_normal ?_
  refine al_round ?_
  refine aw_p 111 (
    .a 1 3 <| .nil _ _) ?_
  refine aw_w [(1, .pointer (some ⟨1, 0, none⟩)), (2, .pointer (some ⟨2, 0, none⟩)), (3, .int .i64 2), (4, .int .i64 3), (5, .bool true), (14, .bool true)] [(1, ⟨[.int .u64 (Sp.dgt (n / 2) 0), .int .u64 (Sp.dgt (n / 2) 1), .int .u64 (Sp.dgt (n / 2) 2), .int .u64 (Sp.dgt n 3), .int .u64 (Sp.dgt n 4), .int .u64 (Sp.dgt n 5), .int .u64 (Sp.dgt n 6)], 27, true, 1⟩), (2, ⟨[.int .u64 0, .int .u64 0, .int .u64 0, .int .u64 0, .int .u64 0, .int .u64 0, .int .u64 0], 27, true, 1⟩)] ?_
  refine aw_sq 222 223 ?_
  refine aw_tr 444 ?_
  refine aw_sk ?_
  refine then_normal ?_
  refine aw_sq 446 447 ?_
  refine aw_bl 1 893 ?_
  refine aw_p 1787 (
    .a 2 3 <| .nil _ _) ?_
  refine aw_p 3575 (
    .a 3 3 <| .p (does_i ((Sp.dgt n 3) / 2) (Sp.uquo (Sp.dgt_bd n 3).1 (by have := Sp.dgt_bd n 3; omega) (by decide)) .u64) <| .a 2 3 <| .nil _ _) ?_
  refine aw_p 7151 (
    .a 3 3 <| .nil _ _) ?_
  refine aw_tr 14302 ?_
  refine aw_d1 (
    .a 7 3 <| .p (does_i ((Sp.dgt n 4) % 2) (Sp.umod (Sp.dgt_bd n 4).1) .u64) <| .p (does_i (((Sp.dgt n 4) % 2) * 2147483648) (wrap_u64 (by have := Sp.dgt_bd n 4; omega) (by have := Sp.dgt_bd n 4; omega)) .u64) <|
    .p (does_i (Sp.dgt (n / 2) 3) ((show (IntKind.wrap .u64 (((Sp.dgt n 3) / 2) + (((Sp.dgt n 4) % 2) * 2147483648))) = (Sp.dgt (n / 2) 3) from (by have q1 := Sp.dgt_bd n 3; have q2 := Sp.dgt_bd n 4; rw [wrap_u64 (by omega) (by omega)]; exact Sp.half_dig n 3))) .u64) <| .a 2 3 <| .nil _ _) ?_
  refine block_normal ?_
  refine then_normal ?_
  refine aw_p1 (
    .a 2 3 <| .nil _ _) ?_
  refine then_normal ?_
  refine al_round ?_
  refine aw_p 111 (
    .a 1 3 <| .nil _ _) ?_
  refine aw_w [(1, .pointer (some ⟨1, 0, none⟩)), (2, .pointer (some ⟨2, 0, none⟩)), (3, .int .i64 3), (4, .int .i64 4), (5, .bool true), (14, .bool true)] [(1, ⟨[.int .u64 (Sp.dgt (n / 2) 0), .int .u64 (Sp.dgt (n / 2) 1), .int .u64 (Sp.dgt (n / 2) 2), .int .u64 (Sp.dgt (n / 2) 3), .int .u64 (Sp.dgt n 4), .int .u64 (Sp.dgt n 5), .int .u64 (Sp.dgt n 6)], 27, true, 1⟩), (2, ⟨[.int .u64 0, .int .u64 0, .int .u64 0, .int .u64 0, .int .u64 0, .int .u64 0, .int .u64 0], 27, true, 1⟩)] ?_
  refine aw_sq 222 223 ?_
  refine aw_tr 444 ?_
  refine aw_sk ?_
  refine then_normal ?_
  refine aw_sq 446 447 ?_
  refine aw_bl 1 893 ?_
  refine aw_p 1787 (
    .a 2 3 <| .nil _ _) ?_
  refine aw_p 3575 (
    .a 3 3 <| .p (does_i ((Sp.dgt n 4) / 2) (Sp.uquo (Sp.dgt_bd n 4).1 (by have := Sp.dgt_bd n 4; omega) (by decide)) .u64) <| .a 2 3 <| .nil _ _) ?_
  refine aw_p 7151 (
    .a 3 3 <| .nil _ _) ?_
  refine aw_tr 14302 ?_
  refine aw_d1 (
    .a 7 3 <| .p (does_i ((Sp.dgt n 5) % 2) (Sp.umod (Sp.dgt_bd n 5).1) .u64) <| .p (does_i (((Sp.dgt n 5) % 2) * 2147483648) (wrap_u64 (by have := Sp.dgt_bd n 5; omega) (by have := Sp.dgt_bd n 5; omega)) .u64) <|
    .p (does_i (Sp.dgt (n / 2) 4) ((show (IntKind.wrap .u64 (((Sp.dgt n 4) / 2) + (((Sp.dgt n 5) % 2) * 2147483648))) = (Sp.dgt (n / 2) 4) from (by have q1 := Sp.dgt_bd n 4; have q2 := Sp.dgt_bd n 5; rw [wrap_u64 (by omega) (by omega)]; exact Sp.half_dig n 4))) .u64) <| .a 2 3 <| .nil _ _) ?_
  refine block_normal ?_
  refine then_normal ?_
  refine aw_p1 (
    .a 2 3 <| .nil _ _) ?_
  refine then_normal ?_
  refine al_round ?_
  refine aw_p 111 (
    .a 1 3 <| .nil _ _) ?_
  refine aw_w [(1, .pointer (some ⟨1, 0, none⟩)), (2, .pointer (some ⟨2, 0, none⟩)), (3, .int .i64 4), (4, .int .i64 5), (5, .bool true), (14, .bool true)] [(1, ⟨[.int .u64 (Sp.dgt (n / 2) 0), .int .u64 (Sp.dgt (n / 2) 1), .int .u64 (Sp.dgt (n / 2) 2), .int .u64 (Sp.dgt (n / 2) 3), .int .u64 (Sp.dgt (n / 2) 4), .int .u64 (Sp.dgt n 5), .int .u64 (Sp.dgt n 6)], 27, true, 1⟩), (2, ⟨[.int .u64 0, .int .u64 0, .int .u64 0, .int .u64 0, .int .u64 0, .int .u64 0, .int .u64 0], 27, true, 1⟩)] ?_
  refine aw_sq 222 223 ?_
  refine aw_tr 444 ?_
  refine aw_sk ?_
  refine then_normal ?_
  refine aw_sq 446 447 ?_
  refine aw_bl 1 893 ?_
  refine aw_p 1787 (
    .a 2 3 <| .nil _ _) ?_
  refine aw_p 3575 (
    .a 3 3 <| .p (does_i ((Sp.dgt n 5) / 2) (Sp.uquo (Sp.dgt_bd n 5).1 (by have := Sp.dgt_bd n 5; omega) (by decide)) .u64) <| .a 2 3 <| .nil _ _) ?_
  refine aw_p 7151 (
    .a 3 3 <| .nil _ _) ?_
  refine aw_tr 14302 ?_
  refine aw_d1 (
    .a 7 3 <| .p (does_i ((Sp.dgt n 6) % 2) (Sp.umod (Sp.dgt_bd n 6).1) .u64) <| .p (does_i (((Sp.dgt n 6) % 2) * 2147483648) (wrap_u64 (by have := Sp.dgt_bd n 6; omega) (by have := Sp.dgt_bd n 6; omega)) .u64) <|
    .p (does_i (Sp.dgt (n / 2) 5) ((show (IntKind.wrap .u64 (((Sp.dgt n 5) / 2) + (((Sp.dgt n 6) % 2) * 2147483648))) = (Sp.dgt (n / 2) 5) from (by have q1 := Sp.dgt_bd n 5; have q2 := Sp.dgt_bd n 6; rw [wrap_u64 (by omega) (by omega)]; exact Sp.half_dig n 5))) .u64) <| .a 2 3 <| .nil _ _) ?_
  refine block_normal ?_
  refine then_normal ?_
  refine aw_p1 (
    .a 2 3 <| .nil _ _) ?_
  refine then_normal ?_
  refine al_round ?_
  refine aw_p 111 (
    .a 1 3 <| .nil _ _) ?_
  refine aw_w [(1, .pointer (some ⟨1, 0, none⟩)), (2, .pointer (some ⟨2, 0, none⟩)), (3, .int .i64 5), (4, .int .i64 6), (5, .bool true), (14, .bool true)] [(1, ⟨[.int .u64 (Sp.dgt (n / 2) 0), .int .u64 (Sp.dgt (n / 2) 1), .int .u64 (Sp.dgt (n / 2) 2), .int .u64 (Sp.dgt (n / 2) 3), .int .u64 (Sp.dgt (n / 2) 4), .int .u64 (Sp.dgt (n / 2) 5), .int .u64 (Sp.dgt n 6)], 27, true, 1⟩), (2, ⟨[.int .u64 0, .int .u64 0, .int .u64 0, .int .u64 0, .int .u64 0, .int .u64 0, .int .u64 0], 27, true, 1⟩)] ?_
  refine aw_sq 222 223 ?_
  refine aw_tr 444 ?_
  refine aw_sk ?_
  refine then_normal ?_
  refine aw_sq 446 447 ?_
  refine aw_bl 1 893 ?_
  refine aw_p 1787 (
    .a 2 3 <| .nil _ _) ?_
  refine aw_p 3575 (
    .a 3 3 <| .p (does_i (Sp.dgt (n / 2) 6) ((Sp.uquo (Sp.dgt_bd n 6).1 (by have := Sp.dgt_bd n 6; omega) (by decide)).trans (Sp.half_dig6 z0 z1)) .u64) <| .a 2 3 <| .nil _ _) ?_
  refine aw_p 7151 (
    .a 3 3 <| .nil _ _) ?_
  refine aw_fl 14303 ?_
  refine aw_sk ?_
  refine block_normal ?_
  refine then_normal ?_
  refine aw_p1 (
    .a 2 3 <| .nil _ _) ?_
  refine then_normal ?_
  refine al_round ?_
  refine aw_p 111 (
    .a 1 3 <| .nil _ _) ?_
  refine aw_sq 222 223 ?_
  refine aw_fl 445 ?_
  refine aw_ex 0 ?_
  refine then_exit ?_
  refine then_exit ?_
  refine block_exit ?_
  refine then_normal ?_
  refine aw_p 15 (
    .a 2 3 <| .nil _ _) ?_
  refine aw_rt ?_
  exact en_ret [lval (n / 2)] (by kernel_rfl)

theorem llof_ok (n : Int) (z0 : -9223372036854775808 ≤ n) (z1 : n ≤ 9223372036854775807) :
    AC Tryd.prog 8 0 ([.int .i64 n]) [] (lval n) [] := by
  obtain ⟨d0, d1, d2, d3⟩ := Sp.lof_dig n z0 z1
  refine ac_in Tryd.func8 (fun w0 W pin => ?_)
  refine aw_p 3 (
    .a 1 1 <| .nil _ _) ?_
  refine aw_p 7 (
    .a 1 2 <| .p (does_i (n % 18446744073709551616) (Sp.ulow) .u64) <| .a 1 2 <| .nil _ _) ?_
  refine aw_p 15 (
    .a 1 2 <| .p (does_i ((n % 18446744073709551616) % 4294967296) (Sp.umod (Int.emod_nonneg _ (by decide))) .u64) <| .a 1 2 <| .p (does_i ((n % 18446744073709551616) / 4294967296) (Sp.ufd (by decide)) .u64) <| .a 3 2 <| .nil _ _) ?_
  refine aw_sq 30 31 ?_
  refine aw_p 61 (
    .a 2 3 <| .nil _ _) ?_
  refine aw_cd 122 123 (decide (n < 0)) (fun h1 => ?_) (fun h1 => ?_)
  · have h1p : ((n < 0)) := by first | (simpa using h1) | (have h1q := h1; simp at h1q; omega) | (have h1q := bx1 h1; simp at h1q; omega)
    refine aw_p 245 (
      .a 1 3 <| .nil _ _) ?_
    refine aw_bl 0 491 ?_
    refine aw_lp 983 ?_
    refine al_round ?_
    refine aw_sq 1966 1967 ?_
    refine aw_p 3933 (
      .a 2 3 <| .nil _ _) ?_
    refine aw_tr 7866 ?_
    refine aw_sk ?_
    refine then_normal ?_
    refine aw_sq 3934 3935 ?_
    refine aw_bl 1 7869 ?_
    refine aw_p1 (
      .a 3 3 <| .nil _ _) ?_
    refine block_normal ?_
    refine then_normal ?_
    refine aw_p1 (
      .a 3 3 <| .nil _ _) ?_
    refine then_normal ?_
    refine al_round ?_
    refine aw_sq 1966 1967 ?_
    refine aw_p 3933 (
      .a 2 3 <| .nil _ _) ?_
    refine aw_tr 7866 ?_
    refine aw_sk ?_
    refine then_normal ?_
    refine aw_sq 3934 3935 ?_
    refine aw_bl 1 7869 ?_
    refine aw_p1 (
      .a 3 3 <| .nil _ _) ?_
    refine block_normal ?_
    refine then_normal ?_
    refine aw_p1 (
      .a 3 3 <| .nil _ _) ?_
    refine then_normal ?_
    refine al_round ?_
    refine aw_sq 1966 1967 ?_
    refine aw_p 3933 (
      .a 2 3 <| .nil _ _) ?_
    refine aw_w [(2, .pointer (some ⟨1, 0, none⟩)), (4, .pointer (some ⟨2, 0, none⟩)), (5, .int .i64 4), (16, .bool true)] [(1, ⟨[.int .u64 0, .int .u64 0, .int .u64 0, .int .u64 0, .int .u64 0, .int .u64 0, .int .u64 0], 27, true, 1⟩), (2, ⟨[.int .u64 ((n % 18446744073709551616) % 4294967296), .int .u64 ((n % 18446744073709551616) / 4294967296), .int .u64 4294967295, .int .u64 4294967295, .int .u64 0, .int .u64 0, .int .u64 0], 27, true, 1⟩)] ?_
    refine aw_tr 7866 ?_
    refine aw_sk ?_
    refine then_normal ?_
    refine aw_sq 3934 3935 ?_
    refine aw_bl 1 7869 ?_
    refine aw_p1 (
      .a 3 3 <| .nil _ _) ?_
    refine block_normal ?_
    refine then_normal ?_
    refine aw_p1 (
      .a 3 3 <| .nil _ _) ?_
    refine then_normal ?_
    refine al_round ?_
    refine aw_sq 1966 1967 ?_
    refine aw_p 3933 (
      .a 2 3 <| .nil _ _) ?_
    refine aw_tr 7866 ?_
    refine aw_sk ?_
    refine then_normal ?_
    refine aw_sq 3934 3935 ?_
    refine aw_bl 1 7869 ?_
    refine aw_p1 (
      .a 3 3 <| .nil _ _) ?_
    refine block_normal ?_
    refine then_normal ?_
    refine aw_p1 (
      .a 3 3 <| .nil _ _) ?_
    refine then_normal ?_
    refine al_round ?_
    refine aw_sq 1966 1967 ?_
    refine aw_p 3933 (
      .a 2 3 <| .nil _ _) ?_
    refine aw_tr 7866 ?_
    refine aw_sk ?_
    refine then_normal ?_
    refine aw_sq 3934 3935 ?_
    refine aw_bl 1 7869 ?_
    refine aw_p1 (
      .a 3 3 <| .nil _ _) ?_
    refine block_normal ?_
    refine then_normal ?_
    refine aw_p1 (
      .a 3 3 <| .nil _ _) ?_
    refine then_normal ?_
    refine al_round ?_
    refine aw_sq 1966 1967 ?_
    refine aw_p 3933 (
      .a 2 3 <| .nil _ _) ?_
    refine aw_fl 7867 ?_
    refine aw_ex 0 ?_
    refine then_exit ?_
    refine then_exit ?_
    refine block_exit ?_
    refine then_normal ?_
    refine aw_p 63 (
      .a 2 3 <| .nil _ _) ?_
    refine aw_w [(2, .pointer (some ⟨1, 0, none⟩))] [(1, ⟨[.int .u64 ((n % 18446744073709551616) % 4294967296), .int .u64 ((n % 18446744073709551616) / 4294967296), .int .u64 4294967295, .int .u64 4294967295, .int .u64 4294967295, .int .u64 4294967295, .int .u64 4294967295], 27, true, 1⟩)] ?_
    refine aw_rt ?_
    exact en_ret [.agg #[.int .u64 ((n % 18446744073709551616) % 4294967296), .int .u64 ((n % 18446744073709551616) / 4294967296), .int .u64 4294967295, .int .u64 4294967295, .int .u64 4294967295, .int .u64 4294967295, .int .u64 4294967295]] (show (.agg #[.int .u64 ((n % 18446744073709551616) % 4294967296), .int .u64 ((n % 18446744073709551616) / 4294967296), .int .u64 4294967295, .int .u64 4294967295, .int .u64 4294967295, .int .u64 4294967295, .int .u64 4294967295] : Value) = (lval n) from (congrArg (fun z : List Value => Value.agg z.toArray) (lcons (congrArg (Value.int .u64) (show ((n % 18446744073709551616) % 4294967296) = (Sp.dgt n 0) from by (first | exact d0.symm | exact d1.symm | exact (d2 (by omega)).1.symm | exact (d2 (by omega)).2.1.symm | exact (d2 (by omega)).2.2.1.symm | exact (d2 (by omega)).2.2.2.1.symm | exact (d2 (by omega)).2.2.2.2.symm | exact (d3 (by omega)).1.symm | exact (d3 (by omega)).2.1.symm | exact (d3 (by omega)).2.2.1.symm | exact (d3 (by omega)).2.2.2.1.symm | exact (d3 (by omega)).2.2.2.2.symm))) (lcons (congrArg (Value.int .u64) (show ((n % 18446744073709551616) / 4294967296) = (Sp.dgt n 1) from by (first | exact d0.symm | exact d1.symm | exact (d2 (by omega)).1.symm | exact (d2 (by omega)).2.1.symm | exact (d2 (by omega)).2.2.1.symm | exact (d2 (by omega)).2.2.2.1.symm | exact (d2 (by omega)).2.2.2.2.symm | exact (d3 (by omega)).1.symm | exact (d3 (by omega)).2.1.symm | exact (d3 (by omega)).2.2.1.symm | exact (d3 (by omega)).2.2.2.1.symm | exact (d3 (by omega)).2.2.2.2.symm))) (lcons (congrArg (Value.int .u64) (show 4294967295 = (Sp.dgt n 2) from by (first | exact d0.symm | exact d1.symm | exact (d2 (by omega)).1.symm | exact (d2 (by omega)).2.1.symm | exact (d2 (by omega)).2.2.1.symm | exact (d2 (by omega)).2.2.2.1.symm | exact (d2 (by omega)).2.2.2.2.symm | exact (d3 (by omega)).1.symm | exact (d3 (by omega)).2.1.symm | exact (d3 (by omega)).2.2.1.symm | exact (d3 (by omega)).2.2.2.1.symm | exact (d3 (by omega)).2.2.2.2.symm))) (lcons (congrArg (Value.int .u64) (show 4294967295 = (Sp.dgt n 3) from by (first | exact d0.symm | exact d1.symm | exact (d2 (by omega)).1.symm | exact (d2 (by omega)).2.1.symm | exact (d2 (by omega)).2.2.1.symm | exact (d2 (by omega)).2.2.2.1.symm | exact (d2 (by omega)).2.2.2.2.symm | exact (d3 (by omega)).1.symm | exact (d3 (by omega)).2.1.symm | exact (d3 (by omega)).2.2.1.symm | exact (d3 (by omega)).2.2.2.1.symm | exact (d3 (by omega)).2.2.2.2.symm))) (lcons (congrArg (Value.int .u64) (show 4294967295 = (Sp.dgt n 4) from by (first | exact d0.symm | exact d1.symm | exact (d2 (by omega)).1.symm | exact (d2 (by omega)).2.1.symm | exact (d2 (by omega)).2.2.1.symm | exact (d2 (by omega)).2.2.2.1.symm | exact (d2 (by omega)).2.2.2.2.symm | exact (d3 (by omega)).1.symm | exact (d3 (by omega)).2.1.symm | exact (d3 (by omega)).2.2.1.symm | exact (d3 (by omega)).2.2.2.1.symm | exact (d3 (by omega)).2.2.2.2.symm))) (lcons (congrArg (Value.int .u64) (show 4294967295 = (Sp.dgt n 5) from by (first | exact d0.symm | exact d1.symm | exact (d2 (by omega)).1.symm | exact (d2 (by omega)).2.1.symm | exact (d2 (by omega)).2.2.1.symm | exact (d2 (by omega)).2.2.2.1.symm | exact (d2 (by omega)).2.2.2.2.symm | exact (d3 (by omega)).1.symm | exact (d3 (by omega)).2.1.symm | exact (d3 (by omega)).2.2.1.symm | exact (d3 (by omega)).2.2.2.1.symm | exact (d3 (by omega)).2.2.2.2.symm))) (lcons (congrArg (Value.int .u64) (show 4294967295 = (Sp.dgt n 6) from by (first | exact d0.symm | exact d1.symm | exact (d2 (by omega)).1.symm | exact (d2 (by omega)).2.1.symm | exact (d2 (by omega)).2.2.1.symm | exact (d2 (by omega)).2.2.2.1.symm | exact (d2 (by omega)).2.2.2.2.symm | exact (d3 (by omega)).1.symm | exact (d3 (by omega)).2.1.symm | exact (d3 (by omega)).2.2.1.symm | exact (d3 (by omega)).2.2.2.1.symm | exact (d3 (by omega)).2.2.2.2.symm))) rfl)))))))))
  · have h1p : ¬ ((n < 0)) := by first | (simpa using h1) | (have h1q := h1; simp at h1q; omega) | (have h1q := bx2 h1; simp at h1q; omega)
    refine aw_sk ?_
    refine then_normal ?_
    refine aw_p 63 (
      .a 2 3 <| .nil _ _) ?_
    refine aw_rt ?_
    exact en_ret [.agg #[.int .u64 ((n % 18446744073709551616) % 4294967296), .int .u64 ((n % 18446744073709551616) / 4294967296), .int .u64 0, .int .u64 0, .int .u64 0, .int .u64 0, .int .u64 0]] (show (.agg #[.int .u64 ((n % 18446744073709551616) % 4294967296), .int .u64 ((n % 18446744073709551616) / 4294967296), .int .u64 0, .int .u64 0, .int .u64 0, .int .u64 0, .int .u64 0] : Value) = (lval n) from (congrArg (fun z : List Value => Value.agg z.toArray) (lcons (congrArg (Value.int .u64) (show ((n % 18446744073709551616) % 4294967296) = (Sp.dgt n 0) from by (first | exact d0.symm | exact d1.symm | exact (d2 (by omega)).1.symm | exact (d2 (by omega)).2.1.symm | exact (d2 (by omega)).2.2.1.symm | exact (d2 (by omega)).2.2.2.1.symm | exact (d2 (by omega)).2.2.2.2.symm | exact (d3 (by omega)).1.symm | exact (d3 (by omega)).2.1.symm | exact (d3 (by omega)).2.2.1.symm | exact (d3 (by omega)).2.2.2.1.symm | exact (d3 (by omega)).2.2.2.2.symm))) (lcons (congrArg (Value.int .u64) (show ((n % 18446744073709551616) / 4294967296) = (Sp.dgt n 1) from by (first | exact d0.symm | exact d1.symm | exact (d2 (by omega)).1.symm | exact (d2 (by omega)).2.1.symm | exact (d2 (by omega)).2.2.1.symm | exact (d2 (by omega)).2.2.2.1.symm | exact (d2 (by omega)).2.2.2.2.symm | exact (d3 (by omega)).1.symm | exact (d3 (by omega)).2.1.symm | exact (d3 (by omega)).2.2.1.symm | exact (d3 (by omega)).2.2.2.1.symm | exact (d3 (by omega)).2.2.2.2.symm))) (lcons (congrArg (Value.int .u64) (show 0 = (Sp.dgt n 2) from by (first | exact d0.symm | exact d1.symm | exact (d2 (by omega)).1.symm | exact (d2 (by omega)).2.1.symm | exact (d2 (by omega)).2.2.1.symm | exact (d2 (by omega)).2.2.2.1.symm | exact (d2 (by omega)).2.2.2.2.symm | exact (d3 (by omega)).1.symm | exact (d3 (by omega)).2.1.symm | exact (d3 (by omega)).2.2.1.symm | exact (d3 (by omega)).2.2.2.1.symm | exact (d3 (by omega)).2.2.2.2.symm))) (lcons (congrArg (Value.int .u64) (show 0 = (Sp.dgt n 3) from by (first | exact d0.symm | exact d1.symm | exact (d2 (by omega)).1.symm | exact (d2 (by omega)).2.1.symm | exact (d2 (by omega)).2.2.1.symm | exact (d2 (by omega)).2.2.2.1.symm | exact (d2 (by omega)).2.2.2.2.symm | exact (d3 (by omega)).1.symm | exact (d3 (by omega)).2.1.symm | exact (d3 (by omega)).2.2.1.symm | exact (d3 (by omega)).2.2.2.1.symm | exact (d3 (by omega)).2.2.2.2.symm))) (lcons (congrArg (Value.int .u64) (show 0 = (Sp.dgt n 4) from by (first | exact d0.symm | exact d1.symm | exact (d2 (by omega)).1.symm | exact (d2 (by omega)).2.1.symm | exact (d2 (by omega)).2.2.1.symm | exact (d2 (by omega)).2.2.2.1.symm | exact (d2 (by omega)).2.2.2.2.symm | exact (d3 (by omega)).1.symm | exact (d3 (by omega)).2.1.symm | exact (d3 (by omega)).2.2.1.symm | exact (d3 (by omega)).2.2.2.1.symm | exact (d3 (by omega)).2.2.2.2.symm))) (lcons (congrArg (Value.int .u64) (show 0 = (Sp.dgt n 5) from by (first | exact d0.symm | exact d1.symm | exact (d2 (by omega)).1.symm | exact (d2 (by omega)).2.1.symm | exact (d2 (by omega)).2.2.1.symm | exact (d2 (by omega)).2.2.2.1.symm | exact (d2 (by omega)).2.2.2.2.symm | exact (d3 (by omega)).1.symm | exact (d3 (by omega)).2.1.symm | exact (d3 (by omega)).2.2.1.symm | exact (d3 (by omega)).2.2.2.1.symm | exact (d3 (by omega)).2.2.2.2.symm))) (lcons (congrArg (Value.int .u64) (show 0 = (Sp.dgt n 6) from by (first | exact d0.symm | exact d1.symm | exact (d2 (by omega)).1.symm | exact (d2 (by omega)).2.1.symm | exact (d2 (by omega)).2.2.1.symm | exact (d2 (by omega)).2.2.2.1.symm | exact (d2 (by omega)).2.2.2.2.symm | exact (d3 (by omega)).1.symm | exact (d3 (by omega)).2.1.symm | exact (d3 (by omega)).2.2.1.symm | exact (d3 (by omega)).2.2.2.1.symm | exact (d3 (by omega)).2.2.2.2.symm))) rfl)))))))))


end Go.Proofs.YtngmegnaohmapaaDoor.Am
