/-
  The walks of the document's count of common points, third part.
-/
import Derived.Test.YtigllakcfdoagaaProg
import Derived.Test.YtigllakcfdoagaaAm16
import Derived.Test.YtigllakcfdoagaaSg7
namespace Go.Proofs.Ytigllakcfdoagaa.Am
open Go Go.Proofs
set_option maxRecDepth 100000
set_option maxHeartbeats 4000000
set_option linter.unusedVariables false
set_option linter.unusedSimpArgs false

theorem rshared_any (ax ay bx b_y cx cy dx dy : Int) :
    AC Try.prog 20 0 ([.agg #[.int .i64 ax, .int .i64 ay], .agg #[.int .i64 bx, .int .i64 b_y], .agg #[.int .i64 cx, .int .i64 cy], .agg #[.int .i64 dx, .int .i64 dy]]) [] (.int .i64 (Sp.meetN (Sp.lim 1048576 ax) (Sp.lim 1048576 ay) (Sp.lim 1048576 bx) (Sp.lim 1048576 b_y) (Sp.lim 1048576 cx) (Sp.lim 1048576 cy) (Sp.lim 1048576 dx) (Sp.lim 1048576 dy))) [] := by
  have qax := Sp.lim_bd (m := 1048576) (by decide) ax; have qay := Sp.lim_bd (m := 1048576) (by decide) ay; have qbx := Sp.lim_bd (m := 1048576) (by decide) bx; have qb_y := Sp.lim_bd (m := 1048576) (by decide) b_y; have qcx := Sp.lim_bd (m := 1048576) (by decide) cx; have qcy := Sp.lim_bd (m := 1048576) (by decide) cy; have qdx := Sp.lim_bd (m := 1048576) (by decide) dx; have qdy := Sp.lim_bd (m := 1048576) (by decide) dy; have c0 := rvalid_ok ax ay; have c1 := rvalid_ok bx b_y; have c2 := rvalid_ok cx cy; have c3 := rvalid_ok dx dy; generalize Sp.lim 1048576 ax = AX at *; generalize Sp.lim 1048576 ay = AY at *; generalize Sp.lim 1048576 bx = BX at *; generalize Sp.lim 1048576 b_y = B_Y at *; generalize Sp.lim 1048576 cx = CX at *; generalize Sp.lim 1048576 cy = CY at *; generalize Sp.lim 1048576 dx = DX at *; generalize Sp.lim 1048576 dy = DY at *; have p1 := Sp.mul_bd (a := (BX - AX)) (b := (DY - CY)) (A := 2097152) (B := 2097152) (by omega) (by omega) (by omega) (by omega); have p2 := Sp.mul_bd (a := (B_Y - AY)) (b := (DX - CX)) (A := 2097152) (B := 2097152) (by omega) (by omega) (by omega) (by omega)
  refine ac_in Try.func20 (fun w0 W pin => ?_)
  refine aw_p 3 (
    .a 5 1 <| .nil _ _) ?_
  refine aw_d 7 (
    .a 1 5 <| .p (does_c (c0)) <| .a 1 5 <| .p (does_c (c1)) <| .a 1 5 <| .p (does_c (c2)) <| .a 1 5 <| .p (does_c (c3)) <| .a 4 5 <| .nil _ _) ?_
  refine aw_p 15 (
    .a 4 5 <| .p (does_i (BX - AX) (wrap_i64 (by omega) (by omega)) .i64) <| .a 4 5 <| .p (does_i (DY - CY) (wrap_i64 (by omega) (by omega)) .i64) <| .p (does_i ((BX - AX) * (DY - CY)) (wrap_i64 (by omega) (by omega)) .i64) <| .a 4 5 <| .p (does_i (B_Y - AY) (wrap_i64 (by omega) (by omega)) .i64) <|
    .a 4 5 <| .p (does_i (DX - CX) (wrap_i64 (by omega) (by omega)) .i64) <| .p (does_i ((B_Y - AY) * (DX - CX)) (wrap_i64 (by omega) (by omega)) .i64) <| .p (does_i (((BX - AX) * (DY - CY)) - ((B_Y - AY) * (DX - CX))) (wrap_i64 (by omega) (by omega)) .i64) <| .a 1 5 <| .nil _ _) ?_
  refine aw_w [(0, .agg #[.int .i64 ax, .int .i64 ay]), (1, .agg #[.int .i64 bx, .int .i64 b_y]), (2, .agg #[.int .i64 cx, .int .i64 cy]), (3, .agg #[.int .i64 dx, .int .i64 dy]), (4, .pointer (some ⟨1, 0, none⟩)), (5, .pointer (some ⟨2, 0, none⟩)), (6, .pointer (some ⟨3, 0, none⟩)), (7, .pointer (some ⟨4, 0, none⟩)), (8, .int .i64 0), (9, .int .i64 (((BX - AX) * (DY - CY)) - ((B_Y - AY) * (DX - CX))))] [(1, ⟨[.int .i64 AX, .int .i64 AY], 24, true, 2⟩), (2, ⟨[.int .i64 BX, .int .i64 B_Y], 24, true, 2⟩), (3, ⟨[.int .i64 CX, .int .i64 CY], 24, true, 2⟩), (4, ⟨[.int .i64 DX, .int .i64 DY], 24, true, 2⟩)] ?_
  refine aw_sq 30 31 ?_
  refine aw_p 61 (
    .a 2 5 <| .nil _ _) ?_
  refine aw_cd 122 123 ((((BX - AX) * (DY - CY)) - ((B_Y - AY) * (DX - CX))) != 0) (fun h1 => ?_) (fun h1 => ?_)
  · have h1p : (¬ ((((BX - AX) * (DY - CY)) - ((B_Y - AY) * (DX - CX))) = 0)) := by first | (simpa using h1) | (have h1q := h1; simp at h1q; omega) | (have h1q := bx1 h1; simp at h1q; omega)
    refine aw_p 245 (
      .a 4 5 <| .p (does_c (rcrossing_in AX AY BX B_Y CX CY DX DY (by omega) (by omega) (by omega) (by omega) (by omega) (by omega) (by omega) (by omega) (by omega) (by omega) (by omega) (by omega) (by omega) (by omega) (by omega) (by omega))) <| .a 1 5 <| .nil _ _) ?_
    refine aw_rt ?_
    refine then_ret ?_
    exact en_ret [.int .i64 (Sp.crossN AX AY BX B_Y CX CY DX DY)] (show (.int .i64 (Sp.crossN AX AY BX B_Y CX CY DX DY) : Value) = (.int .i64 (Sp.meetN AX AY BX B_Y CX CY DX DY)) from (congrArg (Value.int .i64) (show (Sp.crossN AX AY BX B_Y CX CY DX DY) = (Sp.meetN AX AY BX B_Y CX CY DX DY) from by (first | exact Sp.rsh_den (by first | assumption | (intro q; apply h1p; exact q) | (simpa using h1))))))
  · have h1p : ¬ (¬ ((((BX - AX) * (DY - CY)) - ((B_Y - AY) * (DX - CX))) = 0)) := by first | (simpa using h1) | (have h1q := h1; simp at h1q; omega) | (have h1q := bx2 h1; simp at h1q; omega)
    refine aw_sk ?_
    refine then_normal ?_
    refine aw_p 63 (
      .a 1 5 <| .nil _ _) ?_
    refine aw_sq 126 127 ?_
    refine aw_p 253 (
      .a 5 5 <| .nil _ _) ?_
    refine aw_bl 0 507 ?_
    refine aw_lp 1015 ?_
    refine al_round ?_
    refine aw_p 2031 (
      .a 1 6 <| .nil _ _) ?_
    refine aw_sq 4062 4063 ?_
    refine aw_tr 8124 ?_
    refine aw_sk ?_
    refine then_normal ?_
    refine aw_sq 8126 8127 ?_
    refine aw_bl 1 16253 ?_
    refine aw_p 32507 (
      .a 4 6 <| .nil _ _) ?_
    rcases Bool.eq_false_or_eq_true (Sp.addb [] AX AY CX CY DX DY) with h2 | h2
    · refine aw_p 65015 (
        .a 3 7 <| .p (does_c ((by have q := rlies_in CX CY DX DY AX AY (by omega) (by omega) (by omega) (by omega) (by omega) (by omega) (by omega) (by omega) (by omega) (by omega) (by omega) (by omega); rw [Sp.addb_on h2] at q; exact q))) <| .a 3 7 <| .p (does_c (pcontains0 AX AY)) <| .a 2 7 <| .nil _ _) ?_
      refine aw_tr 130030 ?_
      refine aw_p1 (
        .a 3 7 <| .p (does_ap 8) <| .a 1 9 <| .nil _ _) ?_
      refine block_normal ?_
      refine then_normal ?_
      refine aw_p1 (
        .a 2 9 <| .nil _ _) ?_
      refine then_normal ?_
      refine al_round ?_
      refine aw_p 2031 (
        .a 1 9 <| .nil _ _) ?_
      refine aw_w [(0, .agg #[.int .i64 ax, .int .i64 ay]), (1, .agg #[.int .i64 bx, .int .i64 b_y]), (2, .agg #[.int .i64 cx, .int .i64 cy]), (3, .agg #[.int .i64 dx, .int .i64 dy]), (4, .pointer (some ⟨1, 0, none⟩)), (5, .pointer (some ⟨2, 0, none⟩)), (6, .pointer (some ⟨3, 0, none⟩)), (7, .pointer (some ⟨4, 0, none⟩)), (8, .int .i64 0), (9, .int .i64 (((BX - AX) * (DY - CY)) - ((B_Y - AY) * (DX - CX)))), (10, .slice (some ⟨8, 0, none⟩) 1 0), (12, .pointer (some ⟨6, 0, none⟩)), (47, .bool ((((BX - AX) * (DY - CY)) - ((B_Y - AY) * (DX - CX))) != 0)), (55, .slice (some ⟨5, 0, none⟩) 2 0), (56, .int .i64 2), (57, .int .i64 1), (58, .bool true), (70, .bool true)] [(1, ⟨[.int .i64 AX, .int .i64 AY], 24, true, 2⟩), (2, ⟨[.int .i64 BX, .int .i64 B_Y], 24, true, 2⟩), (3, ⟨[.int .i64 CX, .int .i64 CY], 24, true, 2⟩), (4, ⟨[.int .i64 DX, .int .i64 DY], 24, true, 2⟩), (5, ⟨[.int .i64 AX, .int .i64 AY, .int .i64 BX, .int .i64 B_Y], 24, true, 2⟩), (6, ⟨[.int .i64 AX, .int .i64 AY], 24, true, 2⟩), (8, ⟨[.int .i64 AX, .int .i64 AY], 24, true, 2⟩)] ?_
      refine aw_sq 4062 4063 ?_
      refine aw_tr 8124 ?_
      refine aw_sk ?_
      refine then_normal ?_
      refine aw_sq 8126 8127 ?_
      refine aw_bl 1 16253 ?_
      refine aw_p 32507 (
        .a 4 9 <| .nil _ _) ?_
      rcases Bool.eq_false_or_eq_true (Sp.addb [(AX, AY)] BX B_Y CX CY DX DY) with h3 | h3
      · refine aw_p 65015 (
          .a 3 10 <| .p (does_c ((by have q := rlies_in CX CY DX DY BX B_Y (by omega) (by omega) (by omega) (by omega) (by omega) (by omega) (by omega) (by omega) (by omega) (by omega) (by omega) (by omega); rw [Sp.addb_on h3] at q; exact q))) <| .a 3 10 <|
          .p (does_k [8] ((by have q := pcontains1 AX AY BX B_Y; rw [(Sp.addb_no h3)] at q; exact q))) <| .a 2 10 <| .nil _ _) ?_
        refine aw_tr 130030 ?_
        refine aw_p1 (
          .a 3 10 <| .p (does_ap 11) <| .a 1 12 <| .nil _ _) ?_
        refine block_normal ?_
        refine then_normal ?_
        refine aw_p1 (
          .a 2 12 <| .nil _ _) ?_
        refine then_normal ?_
        refine al_round ?_
        refine aw_p 2031 (
          .a 1 12 <| .nil _ _) ?_
        refine aw_sq 4062 4063 ?_
        refine aw_fl 8125 ?_
        refine aw_ex 0 ?_
        refine then_exit ?_
        refine then_exit ?_
        refine block_exit ?_
        refine then_normal ?_
        refine aw_sq 254 255 ?_
        refine aw_p 509 (
          .a 5 12 <| .nil _ _) ?_
        refine aw_w [(0, .agg #[.int .i64 ax, .int .i64 ay]), (1, .agg #[.int .i64 bx, .int .i64 b_y]), (2, .agg #[.int .i64 cx, .int .i64 cy]), (3, .agg #[.int .i64 dx, .int .i64 dy]), (4, .pointer (some ⟨1, 0, none⟩)), (5, .pointer (some ⟨2, 0, none⟩)), (6, .pointer (some ⟨3, 0, none⟩)), (7, .pointer (some ⟨4, 0, none⟩)), (8, .int .i64 0), (9, .int .i64 (((BX - AX) * (DY - CY)) - ((B_Y - AY) * (DX - CX)))), (10, .slice (some ⟨11, 0, none⟩) 2 0), (12, .pointer (some ⟨9, 0, none⟩)), (47, .bool ((((BX - AX) * (DY - CY)) - ((B_Y - AY) * (DX - CX))) != 0)), (55, .slice (some ⟨5, 0, none⟩) 2 0), (56, .int .i64 2), (57, .int .i64 2), (58, .bool false), (70, .bool true), (78, .slice (some ⟨12, 0, none⟩) 2 0), (79, .int .i64 2), (80, .int .i64 0)] [(1, ⟨[.int .i64 AX, .int .i64 AY], 24, true, 2⟩), (2, ⟨[.int .i64 BX, .int .i64 B_Y], 24, true, 2⟩), (3, ⟨[.int .i64 CX, .int .i64 CY], 24, true, 2⟩), (4, ⟨[.int .i64 DX, .int .i64 DY], 24, true, 2⟩), (5, ⟨[.int .i64 AX, .int .i64 AY, .int .i64 BX, .int .i64 B_Y], 24, true, 2⟩), (9, ⟨[.int .i64 BX, .int .i64 B_Y], 24, true, 2⟩), (11, ⟨[.int .i64 AX, .int .i64 AY, .int .i64 BX, .int .i64 B_Y], 24, true, 2⟩), (12, ⟨[.int .i64 CX, .int .i64 CY, .int .i64 DX, .int .i64 DY], 24, true, 2⟩)] ?_
        refine aw_bl 2 1019 ?_
        refine aw_lp 2039 ?_
        refine al_round ?_
        refine aw_p 4079 (
          .a 1 13 <| .nil _ _) ?_
        refine aw_sq 8158 8159 ?_
        refine aw_tr 16316 ?_
        refine aw_sk ?_
        refine then_normal ?_
        refine aw_sq 16318 16319 ?_
        refine aw_bl 3 32637 ?_
        refine aw_p 65275 (
          .a 4 13 <| .nil _ _) ?_
        rcases Bool.eq_false_or_eq_true (Sp.addb [(AX, AY), (BX, B_Y)] CX CY AX AY BX B_Y) with h4 | h4
        · refine aw_p 130551 (
            .a 3 14 <| .p (does_c ((by have q := rlies_in AX AY BX B_Y CX CY (by omega) (by omega) (by omega) (by omega) (by omega) (by omega) (by omega) (by omega) (by omega) (by omega) (by omega) (by omega); rw [Sp.addb_on h4] at q; exact q))) <| .a 3 14 <|
            .p (does_k [11] ((by have q := pcontains2 AX AY BX B_Y CX CY; rw [(Sp.addb_no h4)] at q; exact q))) <| .a 2 14 <| .nil _ _) ?_
          refine aw_tr 261102 ?_
          refine aw_p1 (
            .a 3 14 <| .p (does_ap 15) <| .a 1 16 <| .nil _ _) ?_
          refine block_normal ?_
          refine then_normal ?_
          refine aw_p1 (
            .a 2 16 <| .nil _ _) ?_
          refine then_normal ?_
          refine al_round ?_
          refine aw_p 4079 (
            .a 1 16 <| .nil _ _) ?_
          refine aw_sq 8158 8159 ?_
          refine aw_tr 16316 ?_
          refine aw_sk ?_
          refine then_normal ?_
          refine aw_sq 16318 16319 ?_
          refine aw_bl 3 32637 ?_
          refine aw_p 65275 (
            .a 4 16 <| .nil _ _) ?_
          refine aw_w [(0, .agg #[.int .i64 ax, .int .i64 ay]), (1, .agg #[.int .i64 bx, .int .i64 b_y]), (2, .agg #[.int .i64 cx, .int .i64 cy]), (3, .agg #[.int .i64 dx, .int .i64 dy]), (4, .pointer (some ⟨1, 0, none⟩)), (5, .pointer (some ⟨2, 0, none⟩)), (6, .pointer (some ⟨3, 0, none⟩)), (7, .pointer (some ⟨4, 0, none⟩)), (8, .int .i64 0), (9, .int .i64 (((BX - AX) * (DY - CY)) - ((B_Y - AY) * (DX - CX)))), (10, .slice (some ⟨15, 0, none⟩) 3 0), (12, .pointer (some ⟨9, 0, none⟩)), (14, .pointer (some ⟨16, 0, none⟩)), (47, .bool ((((BX - AX) * (DY - CY)) - ((B_Y - AY) * (DX - CX))) != 0)), (55, .slice (some ⟨5, 0, none⟩) 2 0), (56, .int .i64 2), (57, .int .i64 2), (58, .bool false), (70, .bool true), (78, .slice (some ⟨12, 0, none⟩) 2 0), (79, .int .i64 2), (80, .int .i64 1), (81, .bool true), (93, .bool true)] [(1, ⟨[.int .i64 AX, .int .i64 AY], 24, true, 2⟩), (2, ⟨[.int .i64 BX, .int .i64 B_Y], 24, true, 2⟩), (3, ⟨[.int .i64 CX, .int .i64 CY], 24, true, 2⟩), (4, ⟨[.int .i64 DX, .int .i64 DY], 24, true, 2⟩), (5, ⟨[.int .i64 AX, .int .i64 AY, .int .i64 BX, .int .i64 B_Y], 24, true, 2⟩), (9, ⟨[.int .i64 BX, .int .i64 B_Y], 24, true, 2⟩), (12, ⟨[.int .i64 CX, .int .i64 CY, .int .i64 DX, .int .i64 DY], 24, true, 2⟩), (15, ⟨[.int .i64 AX, .int .i64 AY, .int .i64 BX, .int .i64 B_Y, .int .i64 CX, .int .i64 CY], 24, true, 2⟩), (16, ⟨[.int .i64 DX, .int .i64 DY], 24, true, 2⟩)] ?_
          rcases Bool.eq_false_or_eq_true (Sp.addb [(AX, AY), (BX, B_Y), (CX, CY)] DX DY AX AY BX B_Y) with h5 | h5
          · refine aw_p 130551 (
              .a 3 17 <| .p (does_c ((by have q := rlies_in AX AY BX B_Y DX DY (by omega) (by omega) (by omega) (by omega) (by omega) (by omega) (by omega) (by omega) (by omega) (by omega) (by omega) (by omega); rw [Sp.addb_on h5] at q; exact q))) <| .a 3 17 <|
              .p (does_k [15] ((by have q := pcontains3 AX AY BX B_Y CX CY DX DY; rw [(Sp.addb_no h5)] at q; exact q))) <| .a 2 17 <| .nil _ _) ?_
            refine aw_tr 261102 ?_
            refine aw_p1 (
              .a 3 17 <| .p (does_ap 18) <| .a 1 19 <| .nil _ _) ?_
            refine block_normal ?_
            refine then_normal ?_
            refine aw_p1 (
              .a 2 19 <| .nil _ _) ?_
            refine then_normal ?_
            refine al_round ?_
            refine aw_p 4079 (
              .a 1 19 <| .nil _ _) ?_
            refine aw_sq 8158 8159 ?_
            refine aw_fl 16317 ?_
            refine aw_ex 2 ?_
            refine then_exit ?_
            refine then_exit ?_
            refine block_exit ?_
            refine then_normal ?_
            refine aw_p 511 (
              .a 4 19 <| .nil _ _) ?_
            refine aw_rt ?_
            exact en_ret [.int .i64 2] (show (.int .i64 2 : Value) = (.int .i64 (Sp.meetN AX AY BX B_Y CX CY DX DY)) from (congrArg (Value.int .i64) (show 2 = (Sp.meetN AX AY BX B_Y CX CY DX DY) from by (exact Sp.rsh_par (l := [(AX, AY), (BX, B_Y), (CX, CY), (DX, DY)]) (by unfold Sp.den4; omega) (by unfold Sp.shr; rw [(show Sp.addp [] AX AY CX CY DX DY = [(AX, AY)] from Sp.addp_y h2), (show Sp.addp [(AX, AY)] BX B_Y CX CY DX DY = [(AX, AY), (BX, B_Y)] from Sp.addp_y h3), (show Sp.addp [(AX, AY), (BX, B_Y)] CX CY AX AY BX B_Y = [(AX, AY), (BX, B_Y), (CX, CY)] from Sp.addp_y h4), (show Sp.addp [(AX, AY), (BX, B_Y), (CX, CY)] DX DY AX AY BX B_Y = [(AX, AY), (BX, B_Y), (CX, CY), (DX, DY)] from Sp.addp_y h5)])))))
          · refine aw_join (y := sb Try.f20 130551) (S1 := mkSt 0 [(0, .agg #[.int .i64 ax, .int .i64 ay]), (1, .agg #[.int .i64 bx, .int .i64 b_y]), (2, .agg #[.int .i64 cx, .int .i64 cy]), (3, .agg #[.int .i64 dx, .int .i64 dy]), (4, .pointer (some ⟨1, 0, none⟩)), (5, .pointer (some ⟨2, 0, none⟩)), (6, .pointer (some ⟨3, 0, none⟩)), (7, .pointer (some ⟨4, 0, none⟩)), (8, .int .i64 0), (9, .int .i64 (((BX - AX) * (DY - CY)) - ((B_Y - AY) * (DX - CX)))), (10, .slice (some ⟨15, 0, none⟩) 3 0), (12, .pointer (some ⟨9, 0, none⟩)), (14, .pointer (some ⟨16, 0, none⟩)), (47, .bool ((((BX - AX) * (DY - CY)) - ((B_Y - AY) * (DX - CX))) != 0)), (55, .slice (some ⟨5, 0, none⟩) 2 0), (56, .int .i64 2), (57, .int .i64 2), (58, .bool false), (70, .bool true), (78, .slice (some ⟨12, 0, none⟩) 2 0), (79, .int .i64 2), (80, .int .i64 1), (81, .bool true), (93, .bool false)] [(1, ⟨[.int .i64 AX, .int .i64 AY], 24, true, 2⟩), (2, ⟨[.int .i64 BX, .int .i64 B_Y], 24, true, 2⟩), (3, ⟨[.int .i64 CX, .int .i64 CY], 24, true, 2⟩), (4, ⟨[.int .i64 DX, .int .i64 DY], 24, true, 2⟩), (5, ⟨[.int .i64 AX, .int .i64 AY, .int .i64 BX, .int .i64 B_Y], 24, true, 2⟩), (9, ⟨[.int .i64 BX, .int .i64 B_Y], 24, true, 2⟩), (12, ⟨[.int .i64 CX, .int .i64 CY, .int .i64 DX, .int .i64 DY], 24, true, 2⟩), (15, ⟨[.int .i64 AX, .int .i64 AY, .int .i64 BX, .int .i64 B_Y, .int .i64 CX, .int .i64 CY], 24, true, 2⟩), (16, ⟨[.int .i64 DX, .int .i64 DY], 24, true, 2⟩)]) ?_ (fun K1 => ?_)
            · refine aw_fl 261103 ?_
              refine aw_sk ?_
              refine block_normal ?_
              refine then_normal ?_
              refine aw_p1 (
                .a 2 17 <| .nil _ _) ?_
              refine then_normal ?_
              refine al_round ?_
              refine aw_p 4079 (
                .a 1 17 <| .nil _ _) ?_
              refine aw_sq 8158 8159 ?_
              refine aw_fl 16317 ?_
              refine aw_ex 2 ?_
              refine then_exit ?_
              refine then_exit ?_
              refine block_exit ?_
              refine then_normal ?_
              refine aw_p 511 (
                .a 4 17 <| .nil _ _) ?_
              refine aw_rt ?_
              exact en_ret [.int .i64 2] (show (.int .i64 2 : Value) = (.int .i64 (Sp.meetN AX AY BX B_Y CX CY DX DY)) from (congrArg (Value.int .i64) (show 2 = (Sp.meetN AX AY BX B_Y CX CY DX DY) from by (exact Sp.rsh_par (l := [(AX, AY), (BX, B_Y), (CX, CY)]) (by unfold Sp.den4; omega) (by unfold Sp.shr; rw [(show Sp.addp [] AX AY CX CY DX DY = [(AX, AY)] from Sp.addp_y h2), (show Sp.addp [(AX, AY)] BX B_Y CX CY DX DY = [(AX, AY), (BX, B_Y)] from Sp.addp_y h3), (show Sp.addp [(AX, AY), (BX, B_Y)] CX CY AX AY BX B_Y = [(AX, AY), (BX, B_Y), (CX, CY)] from Sp.addp_y h4), (show Sp.addp [(AX, AY), (BX, B_Y), (CX, CY)] DX DY AX AY BX B_Y = [(AX, AY), (BX, B_Y), (CX, CY)] from Sp.addp_n h5)])))))
            rcases Bool.eq_false_or_eq_true (Sp.onb AX AY BX B_Y DX DY) with h6 | h6
            · refine aw_p 130551 (
                .a 3 17 <| .p (does_cb _ (rlies_in AX AY BX B_Y DX DY (by omega) (by omega) (by omega) (by omega) (by omega) (by omega) (by omega) (by omega) (by omega) (by omega) (by omega) (by omega)) true (h6)) <| .a 3 17 <|
                .p (does_k [15] ((by have q := pcontains3 AX AY BX B_Y CX CY DX DY; rw [(Sp.addb_has h5 h6)] at q; exact q))) <| .a 2 17 <| .nil _ _) ?_
              refine aw_w [(0, .agg #[.int .i64 ax, .int .i64 ay]), (1, .agg #[.int .i64 bx, .int .i64 b_y]), (2, .agg #[.int .i64 cx, .int .i64 cy]), (3, .agg #[.int .i64 dx, .int .i64 dy]), (4, .pointer (some ⟨1, 0, none⟩)), (5, .pointer (some ⟨2, 0, none⟩)), (6, .pointer (some ⟨3, 0, none⟩)), (7, .pointer (some ⟨4, 0, none⟩)), (8, .int .i64 0), (9, .int .i64 (((BX - AX) * (DY - CY)) - ((B_Y - AY) * (DX - CX)))), (10, .slice (some ⟨15, 0, none⟩) 3 0), (12, .pointer (some ⟨9, 0, none⟩)), (14, .pointer (some ⟨16, 0, none⟩)), (47, .bool ((((BX - AX) * (DY - CY)) - ((B_Y - AY) * (DX - CX))) != 0)), (55, .slice (some ⟨5, 0, none⟩) 2 0), (56, .int .i64 2), (57, .int .i64 2), (58, .bool false), (70, .bool true), (78, .slice (some ⟨12, 0, none⟩) 2 0), (79, .int .i64 2), (80, .int .i64 1), (81, .bool true), (93, .bool false)] [(1, ⟨[.int .i64 AX, .int .i64 AY], 24, true, 2⟩), (2, ⟨[.int .i64 BX, .int .i64 B_Y], 24, true, 2⟩), (3, ⟨[.int .i64 CX, .int .i64 CY], 24, true, 2⟩), (4, ⟨[.int .i64 DX, .int .i64 DY], 24, true, 2⟩), (5, ⟨[.int .i64 AX, .int .i64 AY, .int .i64 BX, .int .i64 B_Y], 24, true, 2⟩), (9, ⟨[.int .i64 BX, .int .i64 B_Y], 24, true, 2⟩), (12, ⟨[.int .i64 CX, .int .i64 CY, .int .i64 DX, .int .i64 DY], 24, true, 2⟩), (15, ⟨[.int .i64 AX, .int .i64 AY, .int .i64 BX, .int .i64 B_Y, .int .i64 CX, .int .i64 CY], 24, true, 2⟩), (16, ⟨[.int .i64 DX, .int .i64 DY], 24, true, 2⟩)] ?_
              exact K1
            · refine aw_p 130551 (
                .a 3 17 <| .p (does_cb _ (rlies_in AX AY BX B_Y DX DY (by omega) (by omega) (by omega) (by omega) (by omega) (by omega) (by omega) (by omega) (by omega) (by omega) (by omega) (by omega)) false (h6)) <| .a 6 17 <| .nil _ _) ?_
              refine aw_w [(0, .agg #[.int .i64 ax, .int .i64 ay]), (1, .agg #[.int .i64 bx, .int .i64 b_y]), (2, .agg #[.int .i64 cx, .int .i64 cy]), (3, .agg #[.int .i64 dx, .int .i64 dy]), (4, .pointer (some ⟨1, 0, none⟩)), (5, .pointer (some ⟨2, 0, none⟩)), (6, .pointer (some ⟨3, 0, none⟩)), (7, .pointer (some ⟨4, 0, none⟩)), (8, .int .i64 0), (9, .int .i64 (((BX - AX) * (DY - CY)) - ((B_Y - AY) * (DX - CX)))), (10, .slice (some ⟨15, 0, none⟩) 3 0), (12, .pointer (some ⟨9, 0, none⟩)), (14, .pointer (some ⟨16, 0, none⟩)), (47, .bool ((((BX - AX) * (DY - CY)) - ((B_Y - AY) * (DX - CX))) != 0)), (55, .slice (some ⟨5, 0, none⟩) 2 0), (56, .int .i64 2), (57, .int .i64 2), (58, .bool false), (70, .bool true), (78, .slice (some ⟨12, 0, none⟩) 2 0), (79, .int .i64 2), (80, .int .i64 1), (81, .bool true), (93, .bool false)] [(1, ⟨[.int .i64 AX, .int .i64 AY], 24, true, 2⟩), (2, ⟨[.int .i64 BX, .int .i64 B_Y], 24, true, 2⟩), (3, ⟨[.int .i64 CX, .int .i64 CY], 24, true, 2⟩), (4, ⟨[.int .i64 DX, .int .i64 DY], 24, true, 2⟩), (5, ⟨[.int .i64 AX, .int .i64 AY, .int .i64 BX, .int .i64 B_Y], 24, true, 2⟩), (9, ⟨[.int .i64 BX, .int .i64 B_Y], 24, true, 2⟩), (12, ⟨[.int .i64 CX, .int .i64 CY, .int .i64 DX, .int .i64 DY], 24, true, 2⟩), (15, ⟨[.int .i64 AX, .int .i64 AY, .int .i64 BX, .int .i64 B_Y, .int .i64 CX, .int .i64 CY], 24, true, 2⟩), (16, ⟨[.int .i64 DX, .int .i64 DY], 24, true, 2⟩)] ?_
              exact K1
        · refine aw_join (y := sb Try.f20 130551) (S1 := mkSt 0 [(0, .agg #[.int .i64 ax, .int .i64 ay]), (1, .agg #[.int .i64 bx, .int .i64 b_y]), (2, .agg #[.int .i64 cx, .int .i64 cy]), (3, .agg #[.int .i64 dx, .int .i64 dy]), (4, .pointer (some ⟨1, 0, none⟩)), (5, .pointer (some ⟨2, 0, none⟩)), (6, .pointer (some ⟨3, 0, none⟩)), (7, .pointer (some ⟨4, 0, none⟩)), (8, .int .i64 0), (9, .int .i64 (((BX - AX) * (DY - CY)) - ((B_Y - AY) * (DX - CX)))), (10, .slice (some ⟨11, 0, none⟩) 2 0), (12, .pointer (some ⟨9, 0, none⟩)), (14, .pointer (some ⟨13, 0, none⟩)), (47, .bool ((((BX - AX) * (DY - CY)) - ((B_Y - AY) * (DX - CX))) != 0)), (55, .slice (some ⟨5, 0, none⟩) 2 0), (56, .int .i64 2), (57, .int .i64 2), (58, .bool false), (70, .bool true), (78, .slice (some ⟨12, 0, none⟩) 2 0), (79, .int .i64 2), (80, .int .i64 0), (81, .bool true), (93, .bool false)] [(1, ⟨[.int .i64 AX, .int .i64 AY], 24, true, 2⟩), (2, ⟨[.int .i64 BX, .int .i64 B_Y], 24, true, 2⟩), (3, ⟨[.int .i64 CX, .int .i64 CY], 24, true, 2⟩), (4, ⟨[.int .i64 DX, .int .i64 DY], 24, true, 2⟩), (5, ⟨[.int .i64 AX, .int .i64 AY, .int .i64 BX, .int .i64 B_Y], 24, true, 2⟩), (9, ⟨[.int .i64 BX, .int .i64 B_Y], 24, true, 2⟩), (11, ⟨[.int .i64 AX, .int .i64 AY, .int .i64 BX, .int .i64 B_Y], 24, true, 2⟩), (12, ⟨[.int .i64 CX, .int .i64 CY, .int .i64 DX, .int .i64 DY], 24, true, 2⟩), (13, ⟨[.int .i64 CX, .int .i64 CY], 24, true, 2⟩)]) ?_ (fun K2 => ?_)
          · refine aw_fl 261103 ?_
            refine aw_sk ?_
            refine block_normal ?_
            refine then_normal ?_
            refine aw_p1 (
              .a 2 14 <| .nil _ _) ?_
            refine then_normal ?_
            refine al_round ?_
            refine aw_p 4079 (
              .a 1 14 <| .nil _ _) ?_
            refine aw_sq 8158 8159 ?_
            refine aw_tr 16316 ?_
            refine aw_sk ?_
            refine then_normal ?_
            refine aw_sq 16318 16319 ?_
            refine aw_bl 3 32637 ?_
            refine aw_p 65275 (
              .a 4 14 <| .nil _ _) ?_
            rcases Bool.eq_false_or_eq_true (Sp.addb [(AX, AY), (BX, B_Y)] DX DY AX AY BX B_Y) with h8 | h8
            · refine aw_p 130551 (
                .a 3 15 <| .p (does_c ((by have q := rlies_in AX AY BX B_Y DX DY (by omega) (by omega) (by omega) (by omega) (by omega) (by omega) (by omega) (by omega) (by omega) (by omega) (by omega) (by omega); rw [Sp.addb_on h8] at q; exact q))) <| .a 3 15 <|
                .p (does_k [11] ((by have q := pcontains2 AX AY BX B_Y DX DY; rw [(Sp.addb_no h8)] at q; exact q))) <| .a 2 15 <| .nil _ _) ?_
              refine aw_tr 261102 ?_
              refine aw_p1 (
                .a 3 15 <| .p (does_ap 16) <| .a 1 17 <| .nil _ _) ?_
              refine block_normal ?_
              refine then_normal ?_
              refine aw_p1 (
                .a 2 17 <| .nil _ _) ?_
              refine then_normal ?_
              refine al_round ?_
              refine aw_p 4079 (
                .a 1 17 <| .nil _ _) ?_
              refine aw_w [(0, .agg #[.int .i64 ax, .int .i64 ay]), (1, .agg #[.int .i64 bx, .int .i64 b_y]), (2, .agg #[.int .i64 cx, .int .i64 cy]), (3, .agg #[.int .i64 dx, .int .i64 dy]), (4, .pointer (some ⟨1, 0, none⟩)), (5, .pointer (some ⟨2, 0, none⟩)), (6, .pointer (some ⟨3, 0, none⟩)), (7, .pointer (some ⟨4, 0, none⟩)), (8, .int .i64 0), (9, .int .i64 (((BX - AX) * (DY - CY)) - ((B_Y - AY) * (DX - CX)))), (10, .slice (some ⟨16, 0, none⟩) 3 0), (12, .pointer (some ⟨9, 0, none⟩)), (14, .pointer (some ⟨14, 0, none⟩)), (47, .bool ((((BX - AX) * (DY - CY)) - ((B_Y - AY) * (DX - CX))) != 0)), (55, .slice (some ⟨5, 0, none⟩) 2 0), (56, .int .i64 2), (57, .int .i64 2), (58, .bool false), (70, .bool true), (78, .slice (some ⟨12, 0, none⟩) 2 0), (79, .int .i64 2), (80, .int .i64 2), (81, .bool false), (93, .bool true)] [(1, ⟨[.int .i64 AX, .int .i64 AY], 24, true, 2⟩), (2, ⟨[.int .i64 BX, .int .i64 B_Y], 24, true, 2⟩), (3, ⟨[.int .i64 CX, .int .i64 CY], 24, true, 2⟩), (4, ⟨[.int .i64 DX, .int .i64 DY], 24, true, 2⟩), (5, ⟨[.int .i64 AX, .int .i64 AY, .int .i64 BX, .int .i64 B_Y], 24, true, 2⟩), (9, ⟨[.int .i64 BX, .int .i64 B_Y], 24, true, 2⟩), (12, ⟨[.int .i64 CX, .int .i64 CY, .int .i64 DX, .int .i64 DY], 24, true, 2⟩), (14, ⟨[.int .i64 DX, .int .i64 DY], 24, true, 2⟩), (16, ⟨[.int .i64 AX, .int .i64 AY, .int .i64 BX, .int .i64 B_Y, .int .i64 DX, .int .i64 DY], 24, true, 2⟩)] ?_
              refine aw_sq 8158 8159 ?_
              refine aw_fl 16317 ?_
              refine aw_ex 2 ?_
              refine then_exit ?_
              refine then_exit ?_
              refine block_exit ?_
              refine then_normal ?_
              refine aw_p 511 (
                .a 4 17 <| .nil _ _) ?_
              refine aw_rt ?_
              exact en_ret [.int .i64 2] (show (.int .i64 2 : Value) = (.int .i64 (Sp.meetN AX AY BX B_Y CX CY DX DY)) from (congrArg (Value.int .i64) (show 2 = (Sp.meetN AX AY BX B_Y CX CY DX DY) from by (exact Sp.rsh_par (l := [(AX, AY), (BX, B_Y), (DX, DY)]) (by unfold Sp.den4; omega) (by unfold Sp.shr; rw [(show Sp.addp [] AX AY CX CY DX DY = [(AX, AY)] from Sp.addp_y h2), (show Sp.addp [(AX, AY)] BX B_Y CX CY DX DY = [(AX, AY), (BX, B_Y)] from Sp.addp_y h3), (show Sp.addp [(AX, AY), (BX, B_Y)] CX CY AX AY BX B_Y = [(AX, AY), (BX, B_Y)] from Sp.addp_n h4), (show Sp.addp [(AX, AY), (BX, B_Y)] DX DY AX AY BX B_Y = [(AX, AY), (BX, B_Y), (DX, DY)] from Sp.addp_y h8)])))))
            · refine aw_join (y := sb Try.f20 130551) (S1 := mkSt 0 [(0, .agg #[.int .i64 ax, .int .i64 ay]), (1, .agg #[.int .i64 bx, .int .i64 b_y]), (2, .agg #[.int .i64 cx, .int .i64 cy]), (3, .agg #[.int .i64 dx, .int .i64 dy]), (4, .pointer (some ⟨1, 0, none⟩)), (5, .pointer (some ⟨2, 0, none⟩)), (6, .pointer (some ⟨3, 0, none⟩)), (7, .pointer (some ⟨4, 0, none⟩)), (8, .int .i64 0), (9, .int .i64 (((BX - AX) * (DY - CY)) - ((B_Y - AY) * (DX - CX)))), (10, .slice (some ⟨11, 0, none⟩) 2 0), (12, .pointer (some ⟨9, 0, none⟩)), (14, .pointer (some ⟨14, 0, none⟩)), (47, .bool ((((BX - AX) * (DY - CY)) - ((B_Y - AY) * (DX - CX))) != 0)), (55, .slice (some ⟨5, 0, none⟩) 2 0), (56, .int .i64 2), (57, .int .i64 2), (58, .bool false), (70, .bool true), (78, .slice (some ⟨12, 0, none⟩) 2 0), (79, .int .i64 2), (80, .int .i64 1), (81, .bool true), (93, .bool false)] [(1, ⟨[.int .i64 AX, .int .i64 AY], 24, true, 2⟩), (2, ⟨[.int .i64 BX, .int .i64 B_Y], 24, true, 2⟩), (3, ⟨[.int .i64 CX, .int .i64 CY], 24, true, 2⟩), (4, ⟨[.int .i64 DX, .int .i64 DY], 24, true, 2⟩), (5, ⟨[.int .i64 AX, .int .i64 AY, .int .i64 BX, .int .i64 B_Y], 24, true, 2⟩), (9, ⟨[.int .i64 BX, .int .i64 B_Y], 24, true, 2⟩), (11, ⟨[.int .i64 AX, .int .i64 AY, .int .i64 BX, .int .i64 B_Y], 24, true, 2⟩), (12, ⟨[.int .i64 CX, .int .i64 CY, .int .i64 DX, .int .i64 DY], 24, true, 2⟩), (14, ⟨[.int .i64 DX, .int .i64 DY], 24, true, 2⟩)]) ?_ (fun K3 => ?_)
              · refine aw_fl 261103 ?_
                refine aw_sk ?_
                refine block_normal ?_
                refine then_normal ?_
                refine aw_p1 (
                  .a 2 15 <| .nil _ _) ?_
                refine then_normal ?_
                refine al_round ?_
                refine aw_p 4079 (
                  .a 1 15 <| .nil _ _) ?_
                refine aw_sq 8158 8159 ?_
                refine aw_fl 16317 ?_
                refine aw_ex 2 ?_
                refine then_exit ?_
                refine then_exit ?_
                refine block_exit ?_
                refine then_normal ?_
                refine aw_p 511 (
                  .a 4 15 <| .nil _ _) ?_
                refine aw_rt ?_
                exact en_ret [.int .i64 2] (show (.int .i64 2 : Value) = (.int .i64 (Sp.meetN AX AY BX B_Y CX CY DX DY)) from (congrArg (Value.int .i64) (show 2 = (Sp.meetN AX AY BX B_Y CX CY DX DY) from by (exact Sp.rsh_par (l := [(AX, AY), (BX, B_Y)]) (by unfold Sp.den4; omega) (by unfold Sp.shr; rw [(show Sp.addp [] AX AY CX CY DX DY = [(AX, AY)] from Sp.addp_y h2), (show Sp.addp [(AX, AY)] BX B_Y CX CY DX DY = [(AX, AY), (BX, B_Y)] from Sp.addp_y h3), (show Sp.addp [(AX, AY), (BX, B_Y)] CX CY AX AY BX B_Y = [(AX, AY), (BX, B_Y)] from Sp.addp_n h4), (show Sp.addp [(AX, AY), (BX, B_Y)] DX DY AX AY BX B_Y = [(AX, AY), (BX, B_Y)] from Sp.addp_n h8)])))))
              rcases Bool.eq_false_or_eq_true (Sp.onb AX AY BX B_Y DX DY) with h9 | h9
              · refine aw_p 130551 (
                  .a 3 15 <| .p (does_cb _ (rlies_in AX AY BX B_Y DX DY (by omega) (by omega) (by omega) (by omega) (by omega) (by omega) (by omega) (by omega) (by omega) (by omega) (by omega) (by omega)) true (h9)) <| .a 3 15 <|
                  .p (does_k [11] ((by have q := pcontains2 AX AY BX B_Y DX DY; rw [(Sp.addb_has h8 h9)] at q; exact q))) <| .a 2 15 <| .nil _ _) ?_
                refine aw_w [(0, .agg #[.int .i64 ax, .int .i64 ay]), (1, .agg #[.int .i64 bx, .int .i64 b_y]), (2, .agg #[.int .i64 cx, .int .i64 cy]), (3, .agg #[.int .i64 dx, .int .i64 dy]), (4, .pointer (some ⟨1, 0, none⟩)), (5, .pointer (some ⟨2, 0, none⟩)), (6, .pointer (some ⟨3, 0, none⟩)), (7, .pointer (some ⟨4, 0, none⟩)), (8, .int .i64 0), (9, .int .i64 (((BX - AX) * (DY - CY)) - ((B_Y - AY) * (DX - CX)))), (10, .slice (some ⟨11, 0, none⟩) 2 0), (12, .pointer (some ⟨9, 0, none⟩)), (14, .pointer (some ⟨14, 0, none⟩)), (47, .bool ((((BX - AX) * (DY - CY)) - ((B_Y - AY) * (DX - CX))) != 0)), (55, .slice (some ⟨5, 0, none⟩) 2 0), (56, .int .i64 2), (57, .int .i64 2), (58, .bool false), (70, .bool true), (78, .slice (some ⟨12, 0, none⟩) 2 0), (79, .int .i64 2), (80, .int .i64 1), (81, .bool true), (93, .bool false)] [(1, ⟨[.int .i64 AX, .int .i64 AY], 24, true, 2⟩), (2, ⟨[.int .i64 BX, .int .i64 B_Y], 24, true, 2⟩), (3, ⟨[.int .i64 CX, .int .i64 CY], 24, true, 2⟩), (4, ⟨[.int .i64 DX, .int .i64 DY], 24, true, 2⟩), (5, ⟨[.int .i64 AX, .int .i64 AY, .int .i64 BX, .int .i64 B_Y], 24, true, 2⟩), (9, ⟨[.int .i64 BX, .int .i64 B_Y], 24, true, 2⟩), (11, ⟨[.int .i64 AX, .int .i64 AY, .int .i64 BX, .int .i64 B_Y], 24, true, 2⟩), (12, ⟨[.int .i64 CX, .int .i64 CY, .int .i64 DX, .int .i64 DY], 24, true, 2⟩), (14, ⟨[.int .i64 DX, .int .i64 DY], 24, true, 2⟩)] ?_
                exact K3
              · refine aw_p 130551 (
                  .a 3 15 <| .p (does_cb _ (rlies_in AX AY BX B_Y DX DY (by omega) (by omega) (by omega) (by omega) (by omega) (by omega) (by omega) (by omega) (by omega) (by omega) (by omega) (by omega)) false (h9)) <| .a 6 15 <| .nil _ _) ?_
                refine aw_w [(0, .agg #[.int .i64 ax, .int .i64 ay]), (1, .agg #[.int .i64 bx, .int .i64 b_y]), (2, .agg #[.int .i64 cx, .int .i64 cy]), (3, .agg #[.int .i64 dx, .int .i64 dy]), (4, .pointer (some ⟨1, 0, none⟩)), (5, .pointer (some ⟨2, 0, none⟩)), (6, .pointer (some ⟨3, 0, none⟩)), (7, .pointer (some ⟨4, 0, none⟩)), (8, .int .i64 0), (9, .int .i64 (((BX - AX) * (DY - CY)) - ((B_Y - AY) * (DX - CX)))), (10, .slice (some ⟨11, 0, none⟩) 2 0), (12, .pointer (some ⟨9, 0, none⟩)), (14, .pointer (some ⟨14, 0, none⟩)), (47, .bool ((((BX - AX) * (DY - CY)) - ((B_Y - AY) * (DX - CX))) != 0)), (55, .slice (some ⟨5, 0, none⟩) 2 0), (56, .int .i64 2), (57, .int .i64 2), (58, .bool false), (70, .bool true), (78, .slice (some ⟨12, 0, none⟩) 2 0), (79, .int .i64 2), (80, .int .i64 1), (81, .bool true), (93, .bool false)] [(1, ⟨[.int .i64 AX, .int .i64 AY], 24, true, 2⟩), (2, ⟨[.int .i64 BX, .int .i64 B_Y], 24, true, 2⟩), (3, ⟨[.int .i64 CX, .int .i64 CY], 24, true, 2⟩), (4, ⟨[.int .i64 DX, .int .i64 DY], 24, true, 2⟩), (5, ⟨[.int .i64 AX, .int .i64 AY, .int .i64 BX, .int .i64 B_Y], 24, true, 2⟩), (9, ⟨[.int .i64 BX, .int .i64 B_Y], 24, true, 2⟩), (11, ⟨[.int .i64 AX, .int .i64 AY, .int .i64 BX, .int .i64 B_Y], 24, true, 2⟩), (12, ⟨[.int .i64 CX, .int .i64 CY, .int .i64 DX, .int .i64 DY], 24, true, 2⟩), (14, ⟨[.int .i64 DX, .int .i64 DY], 24, true, 2⟩)] ?_
                exact K3
          rcases Bool.eq_false_or_eq_true (Sp.onb AX AY BX B_Y CX CY) with h7 | h7
          · refine aw_p 130551 (
              .a 3 14 <| .p (does_cb _ (rlies_in AX AY BX B_Y CX CY (by omega) (by omega) (by omega) (by omega) (by omega) (by omega) (by omega) (by omega) (by omega) (by omega) (by omega) (by omega)) true (h7)) <| .a 3 14 <|
              .p (does_k [11] ((by have q := pcontains2 AX AY BX B_Y CX CY; rw [(Sp.addb_has h4 h7)] at q; exact q))) <| .a 2 14 <| .nil _ _) ?_
            refine aw_w [(0, .agg #[.int .i64 ax, .int .i64 ay]), (1, .agg #[.int .i64 bx, .int .i64 b_y]), (2, .agg #[.int .i64 cx, .int .i64 cy]), (3, .agg #[.int .i64 dx, .int .i64 dy]), (4, .pointer (some ⟨1, 0, none⟩)), (5, .pointer (some ⟨2, 0, none⟩)), (6, .pointer (some ⟨3, 0, none⟩)), (7, .pointer (some ⟨4, 0, none⟩)), (8, .int .i64 0), (9, .int .i64 (((BX - AX) * (DY - CY)) - ((B_Y - AY) * (DX - CX)))), (10, .slice (some ⟨11, 0, none⟩) 2 0), (12, .pointer (some ⟨9, 0, none⟩)), (14, .pointer (some ⟨13, 0, none⟩)), (47, .bool ((((BX - AX) * (DY - CY)) - ((B_Y - AY) * (DX - CX))) != 0)), (55, .slice (some ⟨5, 0, none⟩) 2 0), (56, .int .i64 2), (57, .int .i64 2), (58, .bool false), (70, .bool true), (78, .slice (some ⟨12, 0, none⟩) 2 0), (79, .int .i64 2), (80, .int .i64 0), (81, .bool true), (93, .bool false)] [(1, ⟨[.int .i64 AX, .int .i64 AY], 24, true, 2⟩), (2, ⟨[.int .i64 BX, .int .i64 B_Y], 24, true, 2⟩), (3, ⟨[.int .i64 CX, .int .i64 CY], 24, true, 2⟩), (4, ⟨[.int .i64 DX, .int .i64 DY], 24, true, 2⟩), (5, ⟨[.int .i64 AX, .int .i64 AY, .int .i64 BX, .int .i64 B_Y], 24, true, 2⟩), (9, ⟨[.int .i64 BX, .int .i64 B_Y], 24, true, 2⟩), (11, ⟨[.int .i64 AX, .int .i64 AY, .int .i64 BX, .int .i64 B_Y], 24, true, 2⟩), (12, ⟨[.int .i64 CX, .int .i64 CY, .int .i64 DX, .int .i64 DY], 24, true, 2⟩), (13, ⟨[.int .i64 CX, .int .i64 CY], 24, true, 2⟩)] ?_
            exact K2
          · refine aw_p 130551 (
              .a 3 14 <| .p (does_cb _ (rlies_in AX AY BX B_Y CX CY (by omega) (by omega) (by omega) (by omega) (by omega) (by omega) (by omega) (by omega) (by omega) (by omega) (by omega) (by omega)) false (h7)) <| .a 6 14 <| .nil _ _) ?_
            refine aw_w [(0, .agg #[.int .i64 ax, .int .i64 ay]), (1, .agg #[.int .i64 bx, .int .i64 b_y]), (2, .agg #[.int .i64 cx, .int .i64 cy]), (3, .agg #[.int .i64 dx, .int .i64 dy]), (4, .pointer (some ⟨1, 0, none⟩)), (5, .pointer (some ⟨2, 0, none⟩)), (6, .pointer (some ⟨3, 0, none⟩)), (7, .pointer (some ⟨4, 0, none⟩)), (8, .int .i64 0), (9, .int .i64 (((BX - AX) * (DY - CY)) - ((B_Y - AY) * (DX - CX)))), (10, .slice (some ⟨11, 0, none⟩) 2 0), (12, .pointer (some ⟨9, 0, none⟩)), (14, .pointer (some ⟨13, 0, none⟩)), (47, .bool ((((BX - AX) * (DY - CY)) - ((B_Y - AY) * (DX - CX))) != 0)), (55, .slice (some ⟨5, 0, none⟩) 2 0), (56, .int .i64 2), (57, .int .i64 2), (58, .bool false), (70, .bool true), (78, .slice (some ⟨12, 0, none⟩) 2 0), (79, .int .i64 2), (80, .int .i64 0), (81, .bool true), (93, .bool false)] [(1, ⟨[.int .i64 AX, .int .i64 AY], 24, true, 2⟩), (2, ⟨[.int .i64 BX, .int .i64 B_Y], 24, true, 2⟩), (3, ⟨[.int .i64 CX, .int .i64 CY], 24, true, 2⟩), (4, ⟨[.int .i64 DX, .int .i64 DY], 24, true, 2⟩), (5, ⟨[.int .i64 AX, .int .i64 AY, .int .i64 BX, .int .i64 B_Y], 24, true, 2⟩), (9, ⟨[.int .i64 BX, .int .i64 B_Y], 24, true, 2⟩), (11, ⟨[.int .i64 AX, .int .i64 AY, .int .i64 BX, .int .i64 B_Y], 24, true, 2⟩), (12, ⟨[.int .i64 CX, .int .i64 CY, .int .i64 DX, .int .i64 DY], 24, true, 2⟩), (13, ⟨[.int .i64 CX, .int .i64 CY], 24, true, 2⟩)] ?_
            exact K2
      · refine aw_join (y := sb Try.f20 65015) (S1 := mkSt 0 [(0, .agg #[.int .i64 ax, .int .i64 ay]), (1, .agg #[.int .i64 bx, .int .i64 b_y]), (2, .agg #[.int .i64 cx, .int .i64 cy]), (3, .agg #[.int .i64 dx, .int .i64 dy]), (4, .pointer (some ⟨1, 0, none⟩)), (5, .pointer (some ⟨2, 0, none⟩)), (6, .pointer (some ⟨3, 0, none⟩)), (7, .pointer (some ⟨4, 0, none⟩)), (8, .int .i64 0), (9, .int .i64 (((BX - AX) * (DY - CY)) - ((B_Y - AY) * (DX - CX)))), (10, .slice (some ⟨8, 0, none⟩) 1 0), (12, .pointer (some ⟨9, 0, none⟩)), (47, .bool ((((BX - AX) * (DY - CY)) - ((B_Y - AY) * (DX - CX))) != 0)), (55, .slice (some ⟨5, 0, none⟩) 2 0), (56, .int .i64 2), (57, .int .i64 1), (58, .bool true), (70, .bool false)] [(1, ⟨[.int .i64 AX, .int .i64 AY], 24, true, 2⟩), (2, ⟨[.int .i64 BX, .int .i64 B_Y], 24, true, 2⟩), (3, ⟨[.int .i64 CX, .int .i64 CY], 24, true, 2⟩), (4, ⟨[.int .i64 DX, .int .i64 DY], 24, true, 2⟩), (5, ⟨[.int .i64 AX, .int .i64 AY, .int .i64 BX, .int .i64 B_Y], 24, true, 2⟩), (8, ⟨[.int .i64 AX, .int .i64 AY], 24, true, 2⟩), (9, ⟨[.int .i64 BX, .int .i64 B_Y], 24, true, 2⟩)]) ?_ (fun K4 => ?_)
        · refine aw_fl 130031 ?_
          refine aw_sk ?_
          refine block_normal ?_
          refine then_normal ?_
          refine aw_p1 (
            .a 2 10 <| .nil _ _) ?_
          refine then_normal ?_
          refine al_round ?_
          refine aw_p 2031 (
            .a 1 10 <| .nil _ _) ?_
          refine aw_sq 4062 4063 ?_
          refine aw_fl 8125 ?_
          refine aw_ex 0 ?_
          refine then_exit ?_
          refine then_exit ?_
          refine block_exit ?_
          refine then_normal ?_
          refine aw_sq 254 255 ?_
          refine aw_p 509 (
            .a 5 10 <| .nil _ _) ?_
          refine aw_bl 2 1019 ?_
          refine aw_lp 2039 ?_
          refine al_round ?_
          refine aw_p 4079 (
            .a 1 11 <| .nil _ _) ?_
          refine aw_sq 8158 8159 ?_
          refine aw_tr 16316 ?_
          refine aw_sk ?_
          refine then_normal ?_
          refine aw_sq 16318 16319 ?_
          refine aw_bl 3 32637 ?_
          refine aw_p 65275 (
            .a 4 11 <| .nil _ _) ?_
          rcases Bool.eq_false_or_eq_true (Sp.addb [(AX, AY)] CX CY AX AY BX B_Y) with h11 | h11
          · refine aw_p 130551 (
              .a 3 12 <| .p (does_c ((by have q := rlies_in AX AY BX B_Y CX CY (by omega) (by omega) (by omega) (by omega) (by omega) (by omega) (by omega) (by omega) (by omega) (by omega) (by omega) (by omega); rw [Sp.addb_on h11] at q; exact q))) <| .a 3 12 <|
              .p (does_k [8] ((by have q := pcontains1 AX AY CX CY; rw [(Sp.addb_no h11)] at q; exact q))) <| .a 2 12 <| .nil _ _) ?_
            refine aw_w [(0, .agg #[.int .i64 ax, .int .i64 ay]), (1, .agg #[.int .i64 bx, .int .i64 b_y]), (2, .agg #[.int .i64 cx, .int .i64 cy]), (3, .agg #[.int .i64 dx, .int .i64 dy]), (4, .pointer (some ⟨1, 0, none⟩)), (5, .pointer (some ⟨2, 0, none⟩)), (6, .pointer (some ⟨3, 0, none⟩)), (7, .pointer (some ⟨4, 0, none⟩)), (8, .int .i64 0), (9, .int .i64 (((BX - AX) * (DY - CY)) - ((B_Y - AY) * (DX - CX)))), (10, .slice (some ⟨8, 0, none⟩) 1 0), (12, .pointer (some ⟨9, 0, none⟩)), (14, .pointer (some ⟨11, 0, none⟩)), (47, .bool ((((BX - AX) * (DY - CY)) - ((B_Y - AY) * (DX - CX))) != 0)), (55, .slice (some ⟨5, 0, none⟩) 2 0), (56, .int .i64 2), (57, .int .i64 2), (58, .bool false), (70, .bool false), (78, .slice (some ⟨10, 0, none⟩) 2 0), (79, .int .i64 2), (80, .int .i64 0), (81, .bool true), (93, .bool true)] [(1, ⟨[.int .i64 AX, .int .i64 AY], 24, true, 2⟩), (2, ⟨[.int .i64 BX, .int .i64 B_Y], 24, true, 2⟩), (3, ⟨[.int .i64 CX, .int .i64 CY], 24, true, 2⟩), (4, ⟨[.int .i64 DX, .int .i64 DY], 24, true, 2⟩), (5, ⟨[.int .i64 AX, .int .i64 AY, .int .i64 BX, .int .i64 B_Y], 24, true, 2⟩), (8, ⟨[.int .i64 AX, .int .i64 AY], 24, true, 2⟩), (9, ⟨[.int .i64 BX, .int .i64 B_Y], 24, true, 2⟩), (10, ⟨[.int .i64 CX, .int .i64 CY, .int .i64 DX, .int .i64 DY], 24, true, 2⟩), (11, ⟨[.int .i64 CX, .int .i64 CY], 24, true, 2⟩)] ?_
            refine aw_tr 261102 ?_
            refine aw_p1 (
              .a 3 12 <| .p (does_ap 13) <| .a 1 14 <| .nil _ _) ?_
            refine block_normal ?_
            refine then_normal ?_
            refine aw_p1 (
              .a 2 14 <| .nil _ _) ?_
            refine then_normal ?_
            refine al_round ?_
            refine aw_p 4079 (
              .a 1 14 <| .nil _ _) ?_
            refine aw_sq 8158 8159 ?_
            refine aw_tr 16316 ?_
            refine aw_sk ?_
            refine then_normal ?_
            refine aw_sq 16318 16319 ?_
            refine aw_bl 3 32637 ?_
            refine aw_p 65275 (
              .a 4 14 <| .nil _ _) ?_
            rcases Bool.eq_false_or_eq_true (Sp.addb [(AX, AY), (CX, CY)] DX DY AX AY BX B_Y) with h12 | h12
            · refine aw_p 130551 (
                .a 3 15 <| .p (does_c ((by have q := rlies_in AX AY BX B_Y DX DY (by omega) (by omega) (by omega) (by omega) (by omega) (by omega) (by omega) (by omega) (by omega) (by omega) (by omega) (by omega); rw [Sp.addb_on h12] at q; exact q))) <| .a 3 15 <|
                .p (does_k [13] ((by have q := pcontains2 AX AY CX CY DX DY; rw [(Sp.addb_no h12)] at q; exact q))) <| .a 2 15 <| .nil _ _) ?_
              refine aw_tr 261102 ?_
              refine aw_p1 (
                .a 3 15 <| .p (does_ap 16) <| .a 1 17 <| .nil _ _) ?_
              refine block_normal ?_
              refine then_normal ?_
              refine aw_p1 (
                .a 2 17 <| .nil _ _) ?_
              refine then_normal ?_
              refine al_round ?_
              refine aw_p 4079 (
                .a 1 17 <| .nil _ _) ?_
              refine aw_w [(0, .agg #[.int .i64 ax, .int .i64 ay]), (1, .agg #[.int .i64 bx, .int .i64 b_y]), (2, .agg #[.int .i64 cx, .int .i64 cy]), (3, .agg #[.int .i64 dx, .int .i64 dy]), (4, .pointer (some ⟨1, 0, none⟩)), (5, .pointer (some ⟨2, 0, none⟩)), (6, .pointer (some ⟨3, 0, none⟩)), (7, .pointer (some ⟨4, 0, none⟩)), (8, .int .i64 0), (9, .int .i64 (((BX - AX) * (DY - CY)) - ((B_Y - AY) * (DX - CX)))), (10, .slice (some ⟨16, 0, none⟩) 3 0), (12, .pointer (some ⟨9, 0, none⟩)), (14, .pointer (some ⟨14, 0, none⟩)), (47, .bool ((((BX - AX) * (DY - CY)) - ((B_Y - AY) * (DX - CX))) != 0)), (55, .slice (some ⟨5, 0, none⟩) 2 0), (56, .int .i64 2), (57, .int .i64 2), (58, .bool false), (70, .bool false), (78, .slice (some ⟨10, 0, none⟩) 2 0), (79, .int .i64 2), (80, .int .i64 2), (81, .bool false), (93, .bool true)] [(1, ⟨[.int .i64 AX, .int .i64 AY], 24, true, 2⟩), (2, ⟨[.int .i64 BX, .int .i64 B_Y], 24, true, 2⟩), (3, ⟨[.int .i64 CX, .int .i64 CY], 24, true, 2⟩), (4, ⟨[.int .i64 DX, .int .i64 DY], 24, true, 2⟩), (5, ⟨[.int .i64 AX, .int .i64 AY, .int .i64 BX, .int .i64 B_Y], 24, true, 2⟩), (9, ⟨[.int .i64 BX, .int .i64 B_Y], 24, true, 2⟩), (10, ⟨[.int .i64 CX, .int .i64 CY, .int .i64 DX, .int .i64 DY], 24, true, 2⟩), (14, ⟨[.int .i64 DX, .int .i64 DY], 24, true, 2⟩), (16, ⟨[.int .i64 AX, .int .i64 AY, .int .i64 CX, .int .i64 CY, .int .i64 DX, .int .i64 DY], 24, true, 2⟩)] ?_
              refine aw_sq 8158 8159 ?_
              refine aw_fl 16317 ?_
              refine aw_ex 2 ?_
              refine then_exit ?_
              refine then_exit ?_
              refine block_exit ?_
              refine then_normal ?_
              refine aw_p 511 (
                .a 4 17 <| .nil _ _) ?_
              refine aw_rt ?_
              exact en_ret [.int .i64 2] (show (.int .i64 2 : Value) = (.int .i64 (Sp.meetN AX AY BX B_Y CX CY DX DY)) from (congrArg (Value.int .i64) (show 2 = (Sp.meetN AX AY BX B_Y CX CY DX DY) from by (exact Sp.rsh_par (l := [(AX, AY), (CX, CY), (DX, DY)]) (by unfold Sp.den4; omega) (by unfold Sp.shr; rw [(show Sp.addp [] AX AY CX CY DX DY = [(AX, AY)] from Sp.addp_y h2), (show Sp.addp [(AX, AY)] BX B_Y CX CY DX DY = [(AX, AY)] from Sp.addp_n h3), (show Sp.addp [(AX, AY)] CX CY AX AY BX B_Y = [(AX, AY), (CX, CY)] from Sp.addp_y h11), (show Sp.addp [(AX, AY), (CX, CY)] DX DY AX AY BX B_Y = [(AX, AY), (CX, CY), (DX, DY)] from Sp.addp_y h12)])))))
            · refine aw_join (y := sb Try.f20 130551) (S1 := mkSt 0 [(0, .agg #[.int .i64 ax, .int .i64 ay]), (1, .agg #[.int .i64 bx, .int .i64 b_y]), (2, .agg #[.int .i64 cx, .int .i64 cy]), (3, .agg #[.int .i64 dx, .int .i64 dy]), (4, .pointer (some ⟨1, 0, none⟩)), (5, .pointer (some ⟨2, 0, none⟩)), (6, .pointer (some ⟨3, 0, none⟩)), (7, .pointer (some ⟨4, 0, none⟩)), (8, .int .i64 0), (9, .int .i64 (((BX - AX) * (DY - CY)) - ((B_Y - AY) * (DX - CX)))), (10, .slice (some ⟨13, 0, none⟩) 2 0), (12, .pointer (some ⟨9, 0, none⟩)), (14, .pointer (some ⟨14, 0, none⟩)), (47, .bool ((((BX - AX) * (DY - CY)) - ((B_Y - AY) * (DX - CX))) != 0)), (55, .slice (some ⟨5, 0, none⟩) 2 0), (56, .int .i64 2), (57, .int .i64 2), (58, .bool false), (70, .bool false), (78, .slice (some ⟨10, 0, none⟩) 2 0), (79, .int .i64 2), (80, .int .i64 1), (81, .bool true), (93, .bool false)] [(1, ⟨[.int .i64 AX, .int .i64 AY], 24, true, 2⟩), (2, ⟨[.int .i64 BX, .int .i64 B_Y], 24, true, 2⟩), (3, ⟨[.int .i64 CX, .int .i64 CY], 24, true, 2⟩), (4, ⟨[.int .i64 DX, .int .i64 DY], 24, true, 2⟩), (5, ⟨[.int .i64 AX, .int .i64 AY, .int .i64 BX, .int .i64 B_Y], 24, true, 2⟩), (9, ⟨[.int .i64 BX, .int .i64 B_Y], 24, true, 2⟩), (10, ⟨[.int .i64 CX, .int .i64 CY, .int .i64 DX, .int .i64 DY], 24, true, 2⟩), (13, ⟨[.int .i64 AX, .int .i64 AY, .int .i64 CX, .int .i64 CY], 24, true, 2⟩), (14, ⟨[.int .i64 DX, .int .i64 DY], 24, true, 2⟩)]) ?_ (fun K5 => ?_)
              · refine aw_fl 261103 ?_
                refine aw_sk ?_
                refine block_normal ?_
                refine then_normal ?_
                refine aw_p1 (
                  .a 2 15 <| .nil _ _) ?_
                refine then_normal ?_
                refine al_round ?_
                refine aw_p 4079 (
                  .a 1 15 <| .nil _ _) ?_
                refine aw_sq 8158 8159 ?_
                refine aw_fl 16317 ?_
                refine aw_ex 2 ?_
                refine then_exit ?_
                refine then_exit ?_
                refine block_exit ?_
                refine then_normal ?_
                refine aw_p 511 (
                  .a 4 15 <| .nil _ _) ?_
                refine aw_rt ?_
                exact en_ret [.int .i64 2] (show (.int .i64 2 : Value) = (.int .i64 (Sp.meetN AX AY BX B_Y CX CY DX DY)) from (congrArg (Value.int .i64) (show 2 = (Sp.meetN AX AY BX B_Y CX CY DX DY) from by (exact Sp.rsh_par (l := [(AX, AY), (CX, CY)]) (by unfold Sp.den4; omega) (by unfold Sp.shr; rw [(show Sp.addp [] AX AY CX CY DX DY = [(AX, AY)] from Sp.addp_y h2), (show Sp.addp [(AX, AY)] BX B_Y CX CY DX DY = [(AX, AY)] from Sp.addp_n h3), (show Sp.addp [(AX, AY)] CX CY AX AY BX B_Y = [(AX, AY), (CX, CY)] from Sp.addp_y h11), (show Sp.addp [(AX, AY), (CX, CY)] DX DY AX AY BX B_Y = [(AX, AY), (CX, CY)] from Sp.addp_n h12)])))))
              rcases Bool.eq_false_or_eq_true (Sp.onb AX AY BX B_Y DX DY) with h13 | h13
              · refine aw_p 130551 (
                  .a 3 15 <| .p (does_cb _ (rlies_in AX AY BX B_Y DX DY (by omega) (by omega) (by omega) (by omega) (by omega) (by omega) (by omega) (by omega) (by omega) (by omega) (by omega) (by omega)) true (h13)) <| .a 3 15 <|
                  .p (does_k [13] ((by have q := pcontains2 AX AY CX CY DX DY; rw [(Sp.addb_has h12 h13)] at q; exact q))) <| .a 2 15 <| .nil _ _) ?_
                refine aw_w [(0, .agg #[.int .i64 ax, .int .i64 ay]), (1, .agg #[.int .i64 bx, .int .i64 b_y]), (2, .agg #[.int .i64 cx, .int .i64 cy]), (3, .agg #[.int .i64 dx, .int .i64 dy]), (4, .pointer (some ⟨1, 0, none⟩)), (5, .pointer (some ⟨2, 0, none⟩)), (6, .pointer (some ⟨3, 0, none⟩)), (7, .pointer (some ⟨4, 0, none⟩)), (8, .int .i64 0), (9, .int .i64 (((BX - AX) * (DY - CY)) - ((B_Y - AY) * (DX - CX)))), (10, .slice (some ⟨13, 0, none⟩) 2 0), (12, .pointer (some ⟨9, 0, none⟩)), (14, .pointer (some ⟨14, 0, none⟩)), (47, .bool ((((BX - AX) * (DY - CY)) - ((B_Y - AY) * (DX - CX))) != 0)), (55, .slice (some ⟨5, 0, none⟩) 2 0), (56, .int .i64 2), (57, .int .i64 2), (58, .bool false), (70, .bool false), (78, .slice (some ⟨10, 0, none⟩) 2 0), (79, .int .i64 2), (80, .int .i64 1), (81, .bool true), (93, .bool false)] [(1, ⟨[.int .i64 AX, .int .i64 AY], 24, true, 2⟩), (2, ⟨[.int .i64 BX, .int .i64 B_Y], 24, true, 2⟩), (3, ⟨[.int .i64 CX, .int .i64 CY], 24, true, 2⟩), (4, ⟨[.int .i64 DX, .int .i64 DY], 24, true, 2⟩), (5, ⟨[.int .i64 AX, .int .i64 AY, .int .i64 BX, .int .i64 B_Y], 24, true, 2⟩), (9, ⟨[.int .i64 BX, .int .i64 B_Y], 24, true, 2⟩), (10, ⟨[.int .i64 CX, .int .i64 CY, .int .i64 DX, .int .i64 DY], 24, true, 2⟩), (13, ⟨[.int .i64 AX, .int .i64 AY, .int .i64 CX, .int .i64 CY], 24, true, 2⟩), (14, ⟨[.int .i64 DX, .int .i64 DY], 24, true, 2⟩)] ?_
                exact K5
              · refine aw_p 130551 (
                  .a 3 15 <| .p (does_cb _ (rlies_in AX AY BX B_Y DX DY (by omega) (by omega) (by omega) (by omega) (by omega) (by omega) (by omega) (by omega) (by omega) (by omega) (by omega) (by omega)) false (h13)) <| .a 6 15 <| .nil _ _) ?_
                refine aw_w [(0, .agg #[.int .i64 ax, .int .i64 ay]), (1, .agg #[.int .i64 bx, .int .i64 b_y]), (2, .agg #[.int .i64 cx, .int .i64 cy]), (3, .agg #[.int .i64 dx, .int .i64 dy]), (4, .pointer (some ⟨1, 0, none⟩)), (5, .pointer (some ⟨2, 0, none⟩)), (6, .pointer (some ⟨3, 0, none⟩)), (7, .pointer (some ⟨4, 0, none⟩)), (8, .int .i64 0), (9, .int .i64 (((BX - AX) * (DY - CY)) - ((B_Y - AY) * (DX - CX)))), (10, .slice (some ⟨13, 0, none⟩) 2 0), (12, .pointer (some ⟨9, 0, none⟩)), (14, .pointer (some ⟨14, 0, none⟩)), (47, .bool ((((BX - AX) * (DY - CY)) - ((B_Y - AY) * (DX - CX))) != 0)), (55, .slice (some ⟨5, 0, none⟩) 2 0), (56, .int .i64 2), (57, .int .i64 2), (58, .bool false), (70, .bool false), (78, .slice (some ⟨10, 0, none⟩) 2 0), (79, .int .i64 2), (80, .int .i64 1), (81, .bool true), (93, .bool false)] [(1, ⟨[.int .i64 AX, .int .i64 AY], 24, true, 2⟩), (2, ⟨[.int .i64 BX, .int .i64 B_Y], 24, true, 2⟩), (3, ⟨[.int .i64 CX, .int .i64 CY], 24, true, 2⟩), (4, ⟨[.int .i64 DX, .int .i64 DY], 24, true, 2⟩), (5, ⟨[.int .i64 AX, .int .i64 AY, .int .i64 BX, .int .i64 B_Y], 24, true, 2⟩), (9, ⟨[.int .i64 BX, .int .i64 B_Y], 24, true, 2⟩), (10, ⟨[.int .i64 CX, .int .i64 CY, .int .i64 DX, .int .i64 DY], 24, true, 2⟩), (13, ⟨[.int .i64 AX, .int .i64 AY, .int .i64 CX, .int .i64 CY], 24, true, 2⟩), (14, ⟨[.int .i64 DX, .int .i64 DY], 24, true, 2⟩)] ?_
                exact K5
          · refine aw_join (y := sb Try.f20 130551) (S1 := mkSt 0 [(0, .agg #[.int .i64 ax, .int .i64 ay]), (1, .agg #[.int .i64 bx, .int .i64 b_y]), (2, .agg #[.int .i64 cx, .int .i64 cy]), (3, .agg #[.int .i64 dx, .int .i64 dy]), (4, .pointer (some ⟨1, 0, none⟩)), (5, .pointer (some ⟨2, 0, none⟩)), (6, .pointer (some ⟨3, 0, none⟩)), (7, .pointer (some ⟨4, 0, none⟩)), (8, .int .i64 0), (9, .int .i64 (((BX - AX) * (DY - CY)) - ((B_Y - AY) * (DX - CX)))), (10, .slice (some ⟨8, 0, none⟩) 1 0), (12, .pointer (some ⟨9, 0, none⟩)), (14, .pointer (some ⟨11, 0, none⟩)), (47, .bool ((((BX - AX) * (DY - CY)) - ((B_Y - AY) * (DX - CX))) != 0)), (55, .slice (some ⟨5, 0, none⟩) 2 0), (56, .int .i64 2), (57, .int .i64 2), (58, .bool false), (70, .bool false), (78, .slice (some ⟨10, 0, none⟩) 2 0), (79, .int .i64 2), (80, .int .i64 0), (81, .bool true), (93, .bool false)] [(1, ⟨[.int .i64 AX, .int .i64 AY], 24, true, 2⟩), (2, ⟨[.int .i64 BX, .int .i64 B_Y], 24, true, 2⟩), (3, ⟨[.int .i64 CX, .int .i64 CY], 24, true, 2⟩), (4, ⟨[.int .i64 DX, .int .i64 DY], 24, true, 2⟩), (5, ⟨[.int .i64 AX, .int .i64 AY, .int .i64 BX, .int .i64 B_Y], 24, true, 2⟩), (8, ⟨[.int .i64 AX, .int .i64 AY], 24, true, 2⟩), (9, ⟨[.int .i64 BX, .int .i64 B_Y], 24, true, 2⟩), (10, ⟨[.int .i64 CX, .int .i64 CY, .int .i64 DX, .int .i64 DY], 24, true, 2⟩), (11, ⟨[.int .i64 CX, .int .i64 CY], 24, true, 2⟩)]) ?_ (fun K6 => ?_)
            · refine aw_fl 261103 ?_
              refine aw_sk ?_
              refine block_normal ?_
              refine then_normal ?_
              refine aw_p1 (
                .a 2 12 <| .nil _ _) ?_
              refine then_normal ?_
              refine al_round ?_
              refine aw_p 4079 (
                .a 1 12 <| .nil _ _) ?_
              refine aw_sq 8158 8159 ?_
              refine aw_tr 16316 ?_
              refine aw_sk ?_
              refine then_normal ?_
              refine aw_sq 16318 16319 ?_
              refine aw_bl 3 32637 ?_
              refine aw_p 65275 (
                .a 4 12 <| .nil _ _) ?_
              rcases Bool.eq_false_or_eq_true (Sp.addb [(AX, AY)] DX DY AX AY BX B_Y) with h15 | h15
              · refine aw_p 130551 (
                  .a 3 13 <| .p (does_c ((by have q := rlies_in AX AY BX B_Y DX DY (by omega) (by omega) (by omega) (by omega) (by omega) (by omega) (by omega) (by omega) (by omega) (by omega) (by omega) (by omega); rw [Sp.addb_on h15] at q; exact q))) <| .a 3 13 <|
                  .p (does_k [8] ((by have q := pcontains1 AX AY DX DY; rw [(Sp.addb_no h15)] at q; exact q))) <| .a 2 13 <| .nil _ _) ?_
                refine aw_w [(0, .agg #[.int .i64 ax, .int .i64 ay]), (1, .agg #[.int .i64 bx, .int .i64 b_y]), (2, .agg #[.int .i64 cx, .int .i64 cy]), (3, .agg #[.int .i64 dx, .int .i64 dy]), (4, .pointer (some ⟨1, 0, none⟩)), (5, .pointer (some ⟨2, 0, none⟩)), (6, .pointer (some ⟨3, 0, none⟩)), (7, .pointer (some ⟨4, 0, none⟩)), (8, .int .i64 0), (9, .int .i64 (((BX - AX) * (DY - CY)) - ((B_Y - AY) * (DX - CX)))), (10, .slice (some ⟨8, 0, none⟩) 1 0), (12, .pointer (some ⟨9, 0, none⟩)), (14, .pointer (some ⟨12, 0, none⟩)), (47, .bool ((((BX - AX) * (DY - CY)) - ((B_Y - AY) * (DX - CX))) != 0)), (55, .slice (some ⟨5, 0, none⟩) 2 0), (56, .int .i64 2), (57, .int .i64 2), (58, .bool false), (70, .bool false), (78, .slice (some ⟨10, 0, none⟩) 2 0), (79, .int .i64 2), (80, .int .i64 1), (81, .bool true), (93, .bool true)] [(1, ⟨[.int .i64 AX, .int .i64 AY], 24, true, 2⟩), (2, ⟨[.int .i64 BX, .int .i64 B_Y], 24, true, 2⟩), (3, ⟨[.int .i64 CX, .int .i64 CY], 24, true, 2⟩), (4, ⟨[.int .i64 DX, .int .i64 DY], 24, true, 2⟩), (5, ⟨[.int .i64 AX, .int .i64 AY, .int .i64 BX, .int .i64 B_Y], 24, true, 2⟩), (8, ⟨[.int .i64 AX, .int .i64 AY], 24, true, 2⟩), (9, ⟨[.int .i64 BX, .int .i64 B_Y], 24, true, 2⟩), (10, ⟨[.int .i64 CX, .int .i64 CY, .int .i64 DX, .int .i64 DY], 24, true, 2⟩), (12, ⟨[.int .i64 DX, .int .i64 DY], 24, true, 2⟩)] ?_
                refine aw_tr 261102 ?_
                refine aw_p1 (
                  .a 3 13 <| .p (does_ap 14) <| .a 1 15 <| .nil _ _) ?_
                refine block_normal ?_
                refine then_normal ?_
                refine aw_p1 (
                  .a 2 15 <| .nil _ _) ?_
                refine then_normal ?_
                refine al_round ?_
                refine aw_p 4079 (
                  .a 1 15 <| .nil _ _) ?_
                refine aw_sq 8158 8159 ?_
                refine aw_fl 16317 ?_
                refine aw_ex 2 ?_
                refine then_exit ?_
                refine then_exit ?_
                refine block_exit ?_
                refine then_normal ?_
                refine aw_p 511 (
                  .a 4 15 <| .nil _ _) ?_
                refine aw_rt ?_
                exact en_ret [.int .i64 2] (show (.int .i64 2 : Value) = (.int .i64 (Sp.meetN AX AY BX B_Y CX CY DX DY)) from (congrArg (Value.int .i64) (show 2 = (Sp.meetN AX AY BX B_Y CX CY DX DY) from by (exact Sp.rsh_par (l := [(AX, AY), (DX, DY)]) (by unfold Sp.den4; omega) (by unfold Sp.shr; rw [(show Sp.addp [] AX AY CX CY DX DY = [(AX, AY)] from Sp.addp_y h2), (show Sp.addp [(AX, AY)] BX B_Y CX CY DX DY = [(AX, AY)] from Sp.addp_n h3), (show Sp.addp [(AX, AY)] CX CY AX AY BX B_Y = [(AX, AY)] from Sp.addp_n h11), (show Sp.addp [(AX, AY)] DX DY AX AY BX B_Y = [(AX, AY), (DX, DY)] from Sp.addp_y h15)])))))
              · refine aw_join (y := sb Try.f20 130551) (S1 := mkSt 0 [(0, .agg #[.int .i64 ax, .int .i64 ay]), (1, .agg #[.int .i64 bx, .int .i64 b_y]), (2, .agg #[.int .i64 cx, .int .i64 cy]), (3, .agg #[.int .i64 dx, .int .i64 dy]), (4, .pointer (some ⟨1, 0, none⟩)), (5, .pointer (some ⟨2, 0, none⟩)), (6, .pointer (some ⟨3, 0, none⟩)), (7, .pointer (some ⟨4, 0, none⟩)), (8, .int .i64 0), (9, .int .i64 (((BX - AX) * (DY - CY)) - ((B_Y - AY) * (DX - CX)))), (10, .slice (some ⟨8, 0, none⟩) 1 0), (12, .pointer (some ⟨9, 0, none⟩)), (14, .pointer (some ⟨12, 0, none⟩)), (47, .bool ((((BX - AX) * (DY - CY)) - ((B_Y - AY) * (DX - CX))) != 0)), (55, .slice (some ⟨5, 0, none⟩) 2 0), (56, .int .i64 2), (57, .int .i64 2), (58, .bool false), (70, .bool false), (78, .slice (some ⟨10, 0, none⟩) 2 0), (79, .int .i64 2), (80, .int .i64 1), (81, .bool true), (93, .bool false)] [(1, ⟨[.int .i64 AX, .int .i64 AY], 24, true, 2⟩), (2, ⟨[.int .i64 BX, .int .i64 B_Y], 24, true, 2⟩), (3, ⟨[.int .i64 CX, .int .i64 CY], 24, true, 2⟩), (4, ⟨[.int .i64 DX, .int .i64 DY], 24, true, 2⟩), (5, ⟨[.int .i64 AX, .int .i64 AY, .int .i64 BX, .int .i64 B_Y], 24, true, 2⟩), (8, ⟨[.int .i64 AX, .int .i64 AY], 24, true, 2⟩), (9, ⟨[.int .i64 BX, .int .i64 B_Y], 24, true, 2⟩), (10, ⟨[.int .i64 CX, .int .i64 CY, .int .i64 DX, .int .i64 DY], 24, true, 2⟩), (12, ⟨[.int .i64 DX, .int .i64 DY], 24, true, 2⟩)]) ?_ (fun K7 => ?_)
                · refine aw_fl 261103 ?_
                  refine aw_sk ?_
                  refine block_normal ?_
                  refine then_normal ?_
                  refine aw_p1 (
                    .a 2 13 <| .nil _ _) ?_
                  refine then_normal ?_
                  refine al_round ?_
                  refine aw_p 4079 (
                    .a 1 13 <| .nil _ _) ?_
                  refine aw_w [(0, .agg #[.int .i64 ax, .int .i64 ay]), (1, .agg #[.int .i64 bx, .int .i64 b_y]), (2, .agg #[.int .i64 cx, .int .i64 cy]), (3, .agg #[.int .i64 dx, .int .i64 dy]), (4, .pointer (some ⟨1, 0, none⟩)), (5, .pointer (some ⟨2, 0, none⟩)), (6, .pointer (some ⟨3, 0, none⟩)), (7, .pointer (some ⟨4, 0, none⟩)), (8, .int .i64 0), (9, .int .i64 (((BX - AX) * (DY - CY)) - ((B_Y - AY) * (DX - CX)))), (10, .slice (some ⟨8, 0, none⟩) 1 0), (12, .pointer (some ⟨9, 0, none⟩)), (14, .pointer (some ⟨12, 0, none⟩)), (47, .bool ((((BX - AX) * (DY - CY)) - ((B_Y - AY) * (DX - CX))) != 0)), (55, .slice (some ⟨5, 0, none⟩) 2 0), (56, .int .i64 2), (57, .int .i64 2), (58, .bool false), (70, .bool false), (78, .slice (some ⟨10, 0, none⟩) 2 0), (79, .int .i64 2), (80, .int .i64 2), (81, .bool false), (93, .bool false)] [(1, ⟨[.int .i64 AX, .int .i64 AY], 24, true, 2⟩), (2, ⟨[.int .i64 BX, .int .i64 B_Y], 24, true, 2⟩), (3, ⟨[.int .i64 CX, .int .i64 CY], 24, true, 2⟩), (4, ⟨[.int .i64 DX, .int .i64 DY], 24, true, 2⟩), (5, ⟨[.int .i64 AX, .int .i64 AY, .int .i64 BX, .int .i64 B_Y], 24, true, 2⟩), (8, ⟨[.int .i64 AX, .int .i64 AY], 24, true, 2⟩), (9, ⟨[.int .i64 BX, .int .i64 B_Y], 24, true, 2⟩), (10, ⟨[.int .i64 CX, .int .i64 CY, .int .i64 DX, .int .i64 DY], 24, true, 2⟩), (12, ⟨[.int .i64 DX, .int .i64 DY], 24, true, 2⟩)] ?_
                  refine aw_sq 8158 8159 ?_
                  refine aw_fl 16317 ?_
                  refine aw_ex 2 ?_
                  refine then_exit ?_
                  refine then_exit ?_
                  refine block_exit ?_
                  refine then_normal ?_
                  refine aw_p 511 (
                    .a 4 13 <| .nil _ _) ?_
                  refine aw_rt ?_
                  exact en_ret [.int .i64 1] (show (.int .i64 1 : Value) = (.int .i64 (Sp.meetN AX AY BX B_Y CX CY DX DY)) from (congrArg (Value.int .i64) (show 1 = (Sp.meetN AX AY BX B_Y CX CY DX DY) from by (exact Sp.rsh_par (l := [(AX, AY)]) (by unfold Sp.den4; omega) (by unfold Sp.shr; rw [(show Sp.addp [] AX AY CX CY DX DY = [(AX, AY)] from Sp.addp_y h2), (show Sp.addp [(AX, AY)] BX B_Y CX CY DX DY = [(AX, AY)] from Sp.addp_n h3), (show Sp.addp [(AX, AY)] CX CY AX AY BX B_Y = [(AX, AY)] from Sp.addp_n h11), (show Sp.addp [(AX, AY)] DX DY AX AY BX B_Y = [(AX, AY)] from Sp.addp_n h15)])))))
                rcases Bool.eq_false_or_eq_true (Sp.onb AX AY BX B_Y DX DY) with h16 | h16
                · refine aw_p 130551 (
                    .a 3 13 <| .p (does_cb _ (rlies_in AX AY BX B_Y DX DY (by omega) (by omega) (by omega) (by omega) (by omega) (by omega) (by omega) (by omega) (by omega) (by omega) (by omega) (by omega)) true (h16)) <| .a 3 13 <|
                    .p (does_k [8] ((by have q := pcontains1 AX AY DX DY; rw [(Sp.addb_has h15 h16)] at q; exact q))) <| .a 2 13 <| .nil _ _) ?_
                  refine aw_w [(0, .agg #[.int .i64 ax, .int .i64 ay]), (1, .agg #[.int .i64 bx, .int .i64 b_y]), (2, .agg #[.int .i64 cx, .int .i64 cy]), (3, .agg #[.int .i64 dx, .int .i64 dy]), (4, .pointer (some ⟨1, 0, none⟩)), (5, .pointer (some ⟨2, 0, none⟩)), (6, .pointer (some ⟨3, 0, none⟩)), (7, .pointer (some ⟨4, 0, none⟩)), (8, .int .i64 0), (9, .int .i64 (((BX - AX) * (DY - CY)) - ((B_Y - AY) * (DX - CX)))), (10, .slice (some ⟨8, 0, none⟩) 1 0), (12, .pointer (some ⟨9, 0, none⟩)), (14, .pointer (some ⟨12, 0, none⟩)), (47, .bool ((((BX - AX) * (DY - CY)) - ((B_Y - AY) * (DX - CX))) != 0)), (55, .slice (some ⟨5, 0, none⟩) 2 0), (56, .int .i64 2), (57, .int .i64 2), (58, .bool false), (70, .bool false), (78, .slice (some ⟨10, 0, none⟩) 2 0), (79, .int .i64 2), (80, .int .i64 1), (81, .bool true), (93, .bool false)] [(1, ⟨[.int .i64 AX, .int .i64 AY], 24, true, 2⟩), (2, ⟨[.int .i64 BX, .int .i64 B_Y], 24, true, 2⟩), (3, ⟨[.int .i64 CX, .int .i64 CY], 24, true, 2⟩), (4, ⟨[.int .i64 DX, .int .i64 DY], 24, true, 2⟩), (5, ⟨[.int .i64 AX, .int .i64 AY, .int .i64 BX, .int .i64 B_Y], 24, true, 2⟩), (8, ⟨[.int .i64 AX, .int .i64 AY], 24, true, 2⟩), (9, ⟨[.int .i64 BX, .int .i64 B_Y], 24, true, 2⟩), (10, ⟨[.int .i64 CX, .int .i64 CY, .int .i64 DX, .int .i64 DY], 24, true, 2⟩), (12, ⟨[.int .i64 DX, .int .i64 DY], 24, true, 2⟩)] ?_
                  exact K7
                · refine aw_p 130551 (
                    .a 3 13 <| .p (does_cb _ (rlies_in AX AY BX B_Y DX DY (by omega) (by omega) (by omega) (by omega) (by omega) (by omega) (by omega) (by omega) (by omega) (by omega) (by omega) (by omega)) false (h16)) <| .a 6 13 <| .nil _ _) ?_
                  refine aw_w [(0, .agg #[.int .i64 ax, .int .i64 ay]), (1, .agg #[.int .i64 bx, .int .i64 b_y]), (2, .agg #[.int .i64 cx, .int .i64 cy]), (3, .agg #[.int .i64 dx, .int .i64 dy]), (4, .pointer (some ⟨1, 0, none⟩)), (5, .pointer (some ⟨2, 0, none⟩)), (6, .pointer (some ⟨3, 0, none⟩)), (7, .pointer (some ⟨4, 0, none⟩)), (8, .int .i64 0), (9, .int .i64 (((BX - AX) * (DY - CY)) - ((B_Y - AY) * (DX - CX)))), (10, .slice (some ⟨8, 0, none⟩) 1 0), (12, .pointer (some ⟨9, 0, none⟩)), (14, .pointer (some ⟨12, 0, none⟩)), (47, .bool ((((BX - AX) * (DY - CY)) - ((B_Y - AY) * (DX - CX))) != 0)), (55, .slice (some ⟨5, 0, none⟩) 2 0), (56, .int .i64 2), (57, .int .i64 2), (58, .bool false), (70, .bool false), (78, .slice (some ⟨10, 0, none⟩) 2 0), (79, .int .i64 2), (80, .int .i64 1), (81, .bool true), (93, .bool false)] [(1, ⟨[.int .i64 AX, .int .i64 AY], 24, true, 2⟩), (2, ⟨[.int .i64 BX, .int .i64 B_Y], 24, true, 2⟩), (3, ⟨[.int .i64 CX, .int .i64 CY], 24, true, 2⟩), (4, ⟨[.int .i64 DX, .int .i64 DY], 24, true, 2⟩), (5, ⟨[.int .i64 AX, .int .i64 AY, .int .i64 BX, .int .i64 B_Y], 24, true, 2⟩), (8, ⟨[.int .i64 AX, .int .i64 AY], 24, true, 2⟩), (9, ⟨[.int .i64 BX, .int .i64 B_Y], 24, true, 2⟩), (10, ⟨[.int .i64 CX, .int .i64 CY, .int .i64 DX, .int .i64 DY], 24, true, 2⟩), (12, ⟨[.int .i64 DX, .int .i64 DY], 24, true, 2⟩)] ?_
                  exact K7
            rcases Bool.eq_false_or_eq_true (Sp.onb AX AY BX B_Y CX CY) with h14 | h14
            · refine aw_p 130551 (
                .a 3 12 <| .p (does_cb _ (rlies_in AX AY BX B_Y CX CY (by omega) (by omega) (by omega) (by omega) (by omega) (by omega) (by omega) (by omega) (by omega) (by omega) (by omega) (by omega)) true (h14)) <| .a 3 12 <|
                .p (does_k [8] ((by have q := pcontains1 AX AY CX CY; rw [(Sp.addb_has h11 h14)] at q; exact q))) <| .a 2 12 <| .nil _ _) ?_
              refine aw_w [(0, .agg #[.int .i64 ax, .int .i64 ay]), (1, .agg #[.int .i64 bx, .int .i64 b_y]), (2, .agg #[.int .i64 cx, .int .i64 cy]), (3, .agg #[.int .i64 dx, .int .i64 dy]), (4, .pointer (some ⟨1, 0, none⟩)), (5, .pointer (some ⟨2, 0, none⟩)), (6, .pointer (some ⟨3, 0, none⟩)), (7, .pointer (some ⟨4, 0, none⟩)), (8, .int .i64 0), (9, .int .i64 (((BX - AX) * (DY - CY)) - ((B_Y - AY) * (DX - CX)))), (10, .slice (some ⟨8, 0, none⟩) 1 0), (12, .pointer (some ⟨9, 0, none⟩)), (14, .pointer (some ⟨11, 0, none⟩)), (47, .bool ((((BX - AX) * (DY - CY)) - ((B_Y - AY) * (DX - CX))) != 0)), (55, .slice (some ⟨5, 0, none⟩) 2 0), (56, .int .i64 2), (57, .int .i64 2), (58, .bool false), (70, .bool false), (78, .slice (some ⟨10, 0, none⟩) 2 0), (79, .int .i64 2), (80, .int .i64 0), (81, .bool true), (93, .bool false)] [(1, ⟨[.int .i64 AX, .int .i64 AY], 24, true, 2⟩), (2, ⟨[.int .i64 BX, .int .i64 B_Y], 24, true, 2⟩), (3, ⟨[.int .i64 CX, .int .i64 CY], 24, true, 2⟩), (4, ⟨[.int .i64 DX, .int .i64 DY], 24, true, 2⟩), (5, ⟨[.int .i64 AX, .int .i64 AY, .int .i64 BX, .int .i64 B_Y], 24, true, 2⟩), (8, ⟨[.int .i64 AX, .int .i64 AY], 24, true, 2⟩), (9, ⟨[.int .i64 BX, .int .i64 B_Y], 24, true, 2⟩), (10, ⟨[.int .i64 CX, .int .i64 CY, .int .i64 DX, .int .i64 DY], 24, true, 2⟩), (11, ⟨[.int .i64 CX, .int .i64 CY], 24, true, 2⟩)] ?_
              exact K6
            · refine aw_p 130551 (
                .a 3 12 <| .p (does_cb _ (rlies_in AX AY BX B_Y CX CY (by omega) (by omega) (by omega) (by omega) (by omega) (by omega) (by omega) (by omega) (by omega) (by omega) (by omega) (by omega)) false (h14)) <| .a 6 12 <| .nil _ _) ?_
              refine aw_w [(0, .agg #[.int .i64 ax, .int .i64 ay]), (1, .agg #[.int .i64 bx, .int .i64 b_y]), (2, .agg #[.int .i64 cx, .int .i64 cy]), (3, .agg #[.int .i64 dx, .int .i64 dy]), (4, .pointer (some ⟨1, 0, none⟩)), (5, .pointer (some ⟨2, 0, none⟩)), (6, .pointer (some ⟨3, 0, none⟩)), (7, .pointer (some ⟨4, 0, none⟩)), (8, .int .i64 0), (9, .int .i64 (((BX - AX) * (DY - CY)) - ((B_Y - AY) * (DX - CX)))), (10, .slice (some ⟨8, 0, none⟩) 1 0), (12, .pointer (some ⟨9, 0, none⟩)), (14, .pointer (some ⟨11, 0, none⟩)), (47, .bool ((((BX - AX) * (DY - CY)) - ((B_Y - AY) * (DX - CX))) != 0)), (55, .slice (some ⟨5, 0, none⟩) 2 0), (56, .int .i64 2), (57, .int .i64 2), (58, .bool false), (70, .bool false), (78, .slice (some ⟨10, 0, none⟩) 2 0), (79, .int .i64 2), (80, .int .i64 0), (81, .bool true), (93, .bool false)] [(1, ⟨[.int .i64 AX, .int .i64 AY], 24, true, 2⟩), (2, ⟨[.int .i64 BX, .int .i64 B_Y], 24, true, 2⟩), (3, ⟨[.int .i64 CX, .int .i64 CY], 24, true, 2⟩), (4, ⟨[.int .i64 DX, .int .i64 DY], 24, true, 2⟩), (5, ⟨[.int .i64 AX, .int .i64 AY, .int .i64 BX, .int .i64 B_Y], 24, true, 2⟩), (8, ⟨[.int .i64 AX, .int .i64 AY], 24, true, 2⟩), (9, ⟨[.int .i64 BX, .int .i64 B_Y], 24, true, 2⟩), (10, ⟨[.int .i64 CX, .int .i64 CY, .int .i64 DX, .int .i64 DY], 24, true, 2⟩), (11, ⟨[.int .i64 CX, .int .i64 CY], 24, true, 2⟩)] ?_
              exact K6
        rcases Bool.eq_false_or_eq_true (Sp.onb CX CY DX DY BX B_Y) with h10 | h10
        · refine aw_p 65015 (
            .a 3 10 <| .p (does_cb _ (rlies_in CX CY DX DY BX B_Y (by omega) (by omega) (by omega) (by omega) (by omega) (by omega) (by omega) (by omega) (by omega) (by omega) (by omega) (by omega)) true (h10)) <| .a 3 10 <|
            .p (does_k [8] ((by have q := pcontains1 AX AY BX B_Y; rw [(Sp.addb_has h3 h10)] at q; exact q))) <| .a 2 10 <| .nil _ _) ?_
          refine aw_w [(0, .agg #[.int .i64 ax, .int .i64 ay]), (1, .agg #[.int .i64 bx, .int .i64 b_y]), (2, .agg #[.int .i64 cx, .int .i64 cy]), (3, .agg #[.int .i64 dx, .int .i64 dy]), (4, .pointer (some ⟨1, 0, none⟩)), (5, .pointer (some ⟨2, 0, none⟩)), (6, .pointer (some ⟨3, 0, none⟩)), (7, .pointer (some ⟨4, 0, none⟩)), (8, .int .i64 0), (9, .int .i64 (((BX - AX) * (DY - CY)) - ((B_Y - AY) * (DX - CX)))), (10, .slice (some ⟨8, 0, none⟩) 1 0), (12, .pointer (some ⟨9, 0, none⟩)), (47, .bool ((((BX - AX) * (DY - CY)) - ((B_Y - AY) * (DX - CX))) != 0)), (55, .slice (some ⟨5, 0, none⟩) 2 0), (56, .int .i64 2), (57, .int .i64 1), (58, .bool true), (70, .bool false)] [(1, ⟨[.int .i64 AX, .int .i64 AY], 24, true, 2⟩), (2, ⟨[.int .i64 BX, .int .i64 B_Y], 24, true, 2⟩), (3, ⟨[.int .i64 CX, .int .i64 CY], 24, true, 2⟩), (4, ⟨[.int .i64 DX, .int .i64 DY], 24, true, 2⟩), (5, ⟨[.int .i64 AX, .int .i64 AY, .int .i64 BX, .int .i64 B_Y], 24, true, 2⟩), (8, ⟨[.int .i64 AX, .int .i64 AY], 24, true, 2⟩), (9, ⟨[.int .i64 BX, .int .i64 B_Y], 24, true, 2⟩)] ?_
          exact K4
        · refine aw_p 65015 (
            .a 3 10 <| .p (does_cb _ (rlies_in CX CY DX DY BX B_Y (by omega) (by omega) (by omega) (by omega) (by omega) (by omega) (by omega) (by omega) (by omega) (by omega) (by omega) (by omega)) false (h10)) <| .a 6 10 <| .nil _ _) ?_
          refine aw_w [(0, .agg #[.int .i64 ax, .int .i64 ay]), (1, .agg #[.int .i64 bx, .int .i64 b_y]), (2, .agg #[.int .i64 cx, .int .i64 cy]), (3, .agg #[.int .i64 dx, .int .i64 dy]), (4, .pointer (some ⟨1, 0, none⟩)), (5, .pointer (some ⟨2, 0, none⟩)), (6, .pointer (some ⟨3, 0, none⟩)), (7, .pointer (some ⟨4, 0, none⟩)), (8, .int .i64 0), (9, .int .i64 (((BX - AX) * (DY - CY)) - ((B_Y - AY) * (DX - CX)))), (10, .slice (some ⟨8, 0, none⟩) 1 0), (12, .pointer (some ⟨9, 0, none⟩)), (47, .bool ((((BX - AX) * (DY - CY)) - ((B_Y - AY) * (DX - CX))) != 0)), (55, .slice (some ⟨5, 0, none⟩) 2 0), (56, .int .i64 2), (57, .int .i64 1), (58, .bool true), (70, .bool false)] [(1, ⟨[.int .i64 AX, .int .i64 AY], 24, true, 2⟩), (2, ⟨[.int .i64 BX, .int .i64 B_Y], 24, true, 2⟩), (3, ⟨[.int .i64 CX, .int .i64 CY], 24, true, 2⟩), (4, ⟨[.int .i64 DX, .int .i64 DY], 24, true, 2⟩), (5, ⟨[.int .i64 AX, .int .i64 AY, .int .i64 BX, .int .i64 B_Y], 24, true, 2⟩), (8, ⟨[.int .i64 AX, .int .i64 AY], 24, true, 2⟩), (9, ⟨[.int .i64 BX, .int .i64 B_Y], 24, true, 2⟩)] ?_
          exact K4
    · refine aw_p 65015 (
        .a 3 7 <| .p (does_c ((by have q := rlies_in CX CY DX DY AX AY (by omega) (by omega) (by omega) (by omega) (by omega) (by omega) (by omega) (by omega) (by omega) (by omega) (by omega) (by omega); rw [show Sp.onb CX CY DX DY AX AY = false from by simpa [Sp.addb, Sp.has2] using h2] at q; exact q))) <|
        .a 6 7 <| .nil _ _) ?_
      refine aw_fl 130031 ?_
      refine aw_sk ?_
      refine block_normal ?_
      refine then_normal ?_
      refine aw_p1 (
        .a 2 7 <| .nil _ _) ?_
      refine then_normal ?_
      refine al_round ?_
      refine aw_p 2031 (
        .a 1 7 <| .nil _ _) ?_
      refine aw_w [(0, .agg #[.int .i64 ax, .int .i64 ay]), (1, .agg #[.int .i64 bx, .int .i64 b_y]), (2, .agg #[.int .i64 cx, .int .i64 cy]), (3, .agg #[.int .i64 dx, .int .i64 dy]), (4, .pointer (some ⟨1, 0, none⟩)), (5, .pointer (some ⟨2, 0, none⟩)), (6, .pointer (some ⟨3, 0, none⟩)), (7, .pointer (some ⟨4, 0, none⟩)), (8, .int .i64 0), (9, .int .i64 (((BX - AX) * (DY - CY)) - ((B_Y - AY) * (DX - CX)))), (10, .slice none 0 0), (12, .pointer (some ⟨6, 0, none⟩)), (47, .bool ((((BX - AX) * (DY - CY)) - ((B_Y - AY) * (DX - CX))) != 0)), (55, .slice (some ⟨5, 0, none⟩) 2 0), (56, .int .i64 2), (57, .int .i64 1), (58, .bool true), (70, .bool false)] [(1, ⟨[.int .i64 AX, .int .i64 AY], 24, true, 2⟩), (2, ⟨[.int .i64 BX, .int .i64 B_Y], 24, true, 2⟩), (3, ⟨[.int .i64 CX, .int .i64 CY], 24, true, 2⟩), (4, ⟨[.int .i64 DX, .int .i64 DY], 24, true, 2⟩), (5, ⟨[.int .i64 AX, .int .i64 AY, .int .i64 BX, .int .i64 B_Y], 24, true, 2⟩), (6, ⟨[.int .i64 AX, .int .i64 AY], 24, true, 2⟩)] ?_
      refine aw_sq 4062 4063 ?_
      refine aw_tr 8124 ?_
      refine aw_sk ?_
      refine then_normal ?_
      refine aw_sq 8126 8127 ?_
      refine aw_bl 1 16253 ?_
      refine aw_p 32507 (
        .a 4 7 <| .nil _ _) ?_
      rcases Bool.eq_false_or_eq_true (Sp.addb [] BX B_Y CX CY DX DY) with h17 | h17
      · refine aw_p 65015 (
          .a 3 8 <| .p (does_c ((by have q := rlies_in CX CY DX DY BX B_Y (by omega) (by omega) (by omega) (by omega) (by omega) (by omega) (by omega) (by omega) (by omega) (by omega) (by omega) (by omega); rw [Sp.addb_on h17] at q; exact q))) <| .a 3 8 <| .p (does_c (pcontains0 BX B_Y)) <| .a 2 8 <| .nil _ _) ?_
        refine aw_tr 130030 ?_
        refine aw_p1 (
          .a 3 8 <| .p (does_ap 9) <| .a 1 10 <| .nil _ _) ?_
        refine block_normal ?_
        refine then_normal ?_
        refine aw_p1 (
          .a 2 10 <| .nil _ _) ?_
        refine then_normal ?_
        refine al_round ?_
        refine aw_p 2031 (
          .a 1 10 <| .nil _ _) ?_
        refine aw_sq 4062 4063 ?_
        refine aw_fl 8125 ?_
        refine aw_ex 0 ?_
        refine then_exit ?_
        refine then_exit ?_
        refine block_exit ?_
        refine then_normal ?_
        refine aw_sq 254 255 ?_
        refine aw_p 509 (
          .a 5 10 <| .nil _ _) ?_
        refine aw_w [(0, .agg #[.int .i64 ax, .int .i64 ay]), (1, .agg #[.int .i64 bx, .int .i64 b_y]), (2, .agg #[.int .i64 cx, .int .i64 cy]), (3, .agg #[.int .i64 dx, .int .i64 dy]), (4, .pointer (some ⟨1, 0, none⟩)), (5, .pointer (some ⟨2, 0, none⟩)), (6, .pointer (some ⟨3, 0, none⟩)), (7, .pointer (some ⟨4, 0, none⟩)), (8, .int .i64 0), (9, .int .i64 (((BX - AX) * (DY - CY)) - ((B_Y - AY) * (DX - CX)))), (10, .slice (some ⟨9, 0, none⟩) 1 0), (12, .pointer (some ⟨7, 0, none⟩)), (47, .bool ((((BX - AX) * (DY - CY)) - ((B_Y - AY) * (DX - CX))) != 0)), (55, .slice (some ⟨5, 0, none⟩) 2 0), (56, .int .i64 2), (57, .int .i64 2), (58, .bool false), (70, .bool true), (78, .slice (some ⟨10, 0, none⟩) 2 0), (79, .int .i64 2), (80, .int .i64 0)] [(1, ⟨[.int .i64 AX, .int .i64 AY], 24, true, 2⟩), (2, ⟨[.int .i64 BX, .int .i64 B_Y], 24, true, 2⟩), (3, ⟨[.int .i64 CX, .int .i64 CY], 24, true, 2⟩), (4, ⟨[.int .i64 DX, .int .i64 DY], 24, true, 2⟩), (5, ⟨[.int .i64 AX, .int .i64 AY, .int .i64 BX, .int .i64 B_Y], 24, true, 2⟩), (7, ⟨[.int .i64 BX, .int .i64 B_Y], 24, true, 2⟩), (9, ⟨[.int .i64 BX, .int .i64 B_Y], 24, true, 2⟩), (10, ⟨[.int .i64 CX, .int .i64 CY, .int .i64 DX, .int .i64 DY], 24, true, 2⟩)] ?_
        refine aw_bl 2 1019 ?_
        refine aw_lp 2039 ?_
        refine al_round ?_
        refine aw_p 4079 (
          .a 1 11 <| .nil _ _) ?_
        refine aw_sq 8158 8159 ?_
        refine aw_tr 16316 ?_
        refine aw_sk ?_
        refine then_normal ?_
        refine aw_sq 16318 16319 ?_
        refine aw_bl 3 32637 ?_
        refine aw_p 65275 (
          .a 4 11 <| .nil _ _) ?_
        rcases Bool.eq_false_or_eq_true (Sp.addb [(BX, B_Y)] CX CY AX AY BX B_Y) with h18 | h18
        · refine aw_p 130551 (
            .a 3 12 <| .p (does_c ((by have q := rlies_in AX AY BX B_Y CX CY (by omega) (by omega) (by omega) (by omega) (by omega) (by omega) (by omega) (by omega) (by omega) (by omega) (by omega) (by omega); rw [Sp.addb_on h18] at q; exact q))) <| .a 3 12 <|
            .p (does_k [9] ((by have q := pcontains1 BX B_Y CX CY; rw [(Sp.addb_no h18)] at q; exact q))) <| .a 2 12 <| .nil _ _) ?_
          refine aw_tr 261102 ?_
          refine aw_p1 (
            .a 3 12 <| .p (does_ap 13) <| .a 1 14 <| .nil _ _) ?_
          refine block_normal ?_
          refine then_normal ?_
          refine aw_p1 (
            .a 2 14 <| .nil _ _) ?_
          refine then_normal ?_
          refine al_round ?_
          refine aw_p 4079 (
            .a 1 14 <| .nil _ _) ?_
          refine aw_sq 8158 8159 ?_
          refine aw_tr 16316 ?_
          refine aw_sk ?_
          refine then_normal ?_
          refine aw_sq 16318 16319 ?_
          refine aw_bl 3 32637 ?_
          refine aw_p 65275 (
            .a 4 14 <| .nil _ _) ?_
          refine aw_w [(0, .agg #[.int .i64 ax, .int .i64 ay]), (1, .agg #[.int .i64 bx, .int .i64 b_y]), (2, .agg #[.int .i64 cx, .int .i64 cy]), (3, .agg #[.int .i64 dx, .int .i64 dy]), (4, .pointer (some ⟨1, 0, none⟩)), (5, .pointer (some ⟨2, 0, none⟩)), (6, .pointer (some ⟨3, 0, none⟩)), (7, .pointer (some ⟨4, 0, none⟩)), (8, .int .i64 0), (9, .int .i64 (((BX - AX) * (DY - CY)) - ((B_Y - AY) * (DX - CX)))), (10, .slice (some ⟨13, 0, none⟩) 2 0), (12, .pointer (some ⟨7, 0, none⟩)), (14, .pointer (some ⟨14, 0, none⟩)), (47, .bool ((((BX - AX) * (DY - CY)) - ((B_Y - AY) * (DX - CX))) != 0)), (55, .slice (some ⟨5, 0, none⟩) 2 0), (56, .int .i64 2), (57, .int .i64 2), (58, .bool false), (70, .bool true), (78, .slice (some ⟨10, 0, none⟩) 2 0), (79, .int .i64 2), (80, .int .i64 1), (81, .bool true), (93, .bool true)] [(1, ⟨[.int .i64 AX, .int .i64 AY], 24, true, 2⟩), (2, ⟨[.int .i64 BX, .int .i64 B_Y], 24, true, 2⟩), (3, ⟨[.int .i64 CX, .int .i64 CY], 24, true, 2⟩), (4, ⟨[.int .i64 DX, .int .i64 DY], 24, true, 2⟩), (5, ⟨[.int .i64 AX, .int .i64 AY, .int .i64 BX, .int .i64 B_Y], 24, true, 2⟩), (7, ⟨[.int .i64 BX, .int .i64 B_Y], 24, true, 2⟩), (10, ⟨[.int .i64 CX, .int .i64 CY, .int .i64 DX, .int .i64 DY], 24, true, 2⟩), (13, ⟨[.int .i64 BX, .int .i64 B_Y, .int .i64 CX, .int .i64 CY], 24, true, 2⟩), (14, ⟨[.int .i64 DX, .int .i64 DY], 24, true, 2⟩)] ?_
          rcases Bool.eq_false_or_eq_true (Sp.addb [(BX, B_Y), (CX, CY)] DX DY AX AY BX B_Y) with h19 | h19
          · refine aw_p 130551 (
              .a 3 15 <| .p (does_c ((by have q := rlies_in AX AY BX B_Y DX DY (by omega) (by omega) (by omega) (by omega) (by omega) (by omega) (by omega) (by omega) (by omega) (by omega) (by omega) (by omega); rw [Sp.addb_on h19] at q; exact q))) <| .a 3 15 <|
              .p (does_k [13] ((by have q := pcontains2 BX B_Y CX CY DX DY; rw [(Sp.addb_no h19)] at q; exact q))) <| .a 2 15 <| .nil _ _) ?_
            refine aw_tr 261102 ?_
            refine aw_p1 (
              .a 3 15 <| .p (does_ap 16) <| .a 1 17 <| .nil _ _) ?_
            refine block_normal ?_
            refine then_normal ?_
            refine aw_p1 (
              .a 2 17 <| .nil _ _) ?_
            refine then_normal ?_
            refine al_round ?_
            refine aw_p 4079 (
              .a 1 17 <| .nil _ _) ?_
            refine aw_sq 8158 8159 ?_
            refine aw_fl 16317 ?_
            refine aw_ex 2 ?_
            refine then_exit ?_
            refine then_exit ?_
            refine block_exit ?_
            refine then_normal ?_
            refine aw_p 511 (
              .a 4 17 <| .nil _ _) ?_
            refine aw_rt ?_
            exact en_ret [.int .i64 2] (show (.int .i64 2 : Value) = (.int .i64 (Sp.meetN AX AY BX B_Y CX CY DX DY)) from (congrArg (Value.int .i64) (show 2 = (Sp.meetN AX AY BX B_Y CX CY DX DY) from by (exact Sp.rsh_par (l := [(BX, B_Y), (CX, CY), (DX, DY)]) (by unfold Sp.den4; omega) (by unfold Sp.shr; rw [(show Sp.addp [] AX AY CX CY DX DY = [] from Sp.addp_n h2), (show Sp.addp [] BX B_Y CX CY DX DY = [(BX, B_Y)] from Sp.addp_y h17), (show Sp.addp [(BX, B_Y)] CX CY AX AY BX B_Y = [(BX, B_Y), (CX, CY)] from Sp.addp_y h18), (show Sp.addp [(BX, B_Y), (CX, CY)] DX DY AX AY BX B_Y = [(BX, B_Y), (CX, CY), (DX, DY)] from Sp.addp_y h19)])))))
          · refine aw_join (y := sb Try.f20 130551) (S1 := mkSt 0 [(0, .agg #[.int .i64 ax, .int .i64 ay]), (1, .agg #[.int .i64 bx, .int .i64 b_y]), (2, .agg #[.int .i64 cx, .int .i64 cy]), (3, .agg #[.int .i64 dx, .int .i64 dy]), (4, .pointer (some ⟨1, 0, none⟩)), (5, .pointer (some ⟨2, 0, none⟩)), (6, .pointer (some ⟨3, 0, none⟩)), (7, .pointer (some ⟨4, 0, none⟩)), (8, .int .i64 0), (9, .int .i64 (((BX - AX) * (DY - CY)) - ((B_Y - AY) * (DX - CX)))), (10, .slice (some ⟨13, 0, none⟩) 2 0), (12, .pointer (some ⟨7, 0, none⟩)), (14, .pointer (some ⟨14, 0, none⟩)), (47, .bool ((((BX - AX) * (DY - CY)) - ((B_Y - AY) * (DX - CX))) != 0)), (55, .slice (some ⟨5, 0, none⟩) 2 0), (56, .int .i64 2), (57, .int .i64 2), (58, .bool false), (70, .bool true), (78, .slice (some ⟨10, 0, none⟩) 2 0), (79, .int .i64 2), (80, .int .i64 1), (81, .bool true), (93, .bool false)] [(1, ⟨[.int .i64 AX, .int .i64 AY], 24, true, 2⟩), (2, ⟨[.int .i64 BX, .int .i64 B_Y], 24, true, 2⟩), (3, ⟨[.int .i64 CX, .int .i64 CY], 24, true, 2⟩), (4, ⟨[.int .i64 DX, .int .i64 DY], 24, true, 2⟩), (5, ⟨[.int .i64 AX, .int .i64 AY, .int .i64 BX, .int .i64 B_Y], 24, true, 2⟩), (7, ⟨[.int .i64 BX, .int .i64 B_Y], 24, true, 2⟩), (10, ⟨[.int .i64 CX, .int .i64 CY, .int .i64 DX, .int .i64 DY], 24, true, 2⟩), (13, ⟨[.int .i64 BX, .int .i64 B_Y, .int .i64 CX, .int .i64 CY], 24, true, 2⟩), (14, ⟨[.int .i64 DX, .int .i64 DY], 24, true, 2⟩)]) ?_ (fun K8 => ?_)
            · refine aw_fl 261103 ?_
              refine aw_sk ?_
              refine block_normal ?_
              refine then_normal ?_
              refine aw_p1 (
                .a 2 15 <| .nil _ _) ?_
              refine then_normal ?_
              refine al_round ?_
              refine aw_p 4079 (
                .a 1 15 <| .nil _ _) ?_
              refine aw_sq 8158 8159 ?_
              refine aw_fl 16317 ?_
              refine aw_ex 2 ?_
              refine then_exit ?_
              refine then_exit ?_
              refine block_exit ?_
              refine then_normal ?_
              refine aw_p 511 (
                .a 4 15 <| .nil _ _) ?_
              refine aw_rt ?_
              exact en_ret [.int .i64 2] (show (.int .i64 2 : Value) = (.int .i64 (Sp.meetN AX AY BX B_Y CX CY DX DY)) from (congrArg (Value.int .i64) (show 2 = (Sp.meetN AX AY BX B_Y CX CY DX DY) from by (exact Sp.rsh_par (l := [(BX, B_Y), (CX, CY)]) (by unfold Sp.den4; omega) (by unfold Sp.shr; rw [(show Sp.addp [] AX AY CX CY DX DY = [] from Sp.addp_n h2), (show Sp.addp [] BX B_Y CX CY DX DY = [(BX, B_Y)] from Sp.addp_y h17), (show Sp.addp [(BX, B_Y)] CX CY AX AY BX B_Y = [(BX, B_Y), (CX, CY)] from Sp.addp_y h18), (show Sp.addp [(BX, B_Y), (CX, CY)] DX DY AX AY BX B_Y = [(BX, B_Y), (CX, CY)] from Sp.addp_n h19)])))))
            rcases Bool.eq_false_or_eq_true (Sp.onb AX AY BX B_Y DX DY) with h20 | h20
            · refine aw_p 130551 (
                .a 3 15 <| .p (does_cb _ (rlies_in AX AY BX B_Y DX DY (by omega) (by omega) (by omega) (by omega) (by omega) (by omega) (by omega) (by omega) (by omega) (by omega) (by omega) (by omega)) true (h20)) <| .a 3 15 <|
                .p (does_k [13] ((by have q := pcontains2 BX B_Y CX CY DX DY; rw [(Sp.addb_has h19 h20)] at q; exact q))) <| .a 2 15 <| .nil _ _) ?_
              refine aw_w [(0, .agg #[.int .i64 ax, .int .i64 ay]), (1, .agg #[.int .i64 bx, .int .i64 b_y]), (2, .agg #[.int .i64 cx, .int .i64 cy]), (3, .agg #[.int .i64 dx, .int .i64 dy]), (4, .pointer (some ⟨1, 0, none⟩)), (5, .pointer (some ⟨2, 0, none⟩)), (6, .pointer (some ⟨3, 0, none⟩)), (7, .pointer (some ⟨4, 0, none⟩)), (8, .int .i64 0), (9, .int .i64 (((BX - AX) * (DY - CY)) - ((B_Y - AY) * (DX - CX)))), (10, .slice (some ⟨13, 0, none⟩) 2 0), (12, .pointer (some ⟨7, 0, none⟩)), (14, .pointer (some ⟨14, 0, none⟩)), (47, .bool ((((BX - AX) * (DY - CY)) - ((B_Y - AY) * (DX - CX))) != 0)), (55, .slice (some ⟨5, 0, none⟩) 2 0), (56, .int .i64 2), (57, .int .i64 2), (58, .bool false), (70, .bool true), (78, .slice (some ⟨10, 0, none⟩) 2 0), (79, .int .i64 2), (80, .int .i64 1), (81, .bool true), (93, .bool false)] [(1, ⟨[.int .i64 AX, .int .i64 AY], 24, true, 2⟩), (2, ⟨[.int .i64 BX, .int .i64 B_Y], 24, true, 2⟩), (3, ⟨[.int .i64 CX, .int .i64 CY], 24, true, 2⟩), (4, ⟨[.int .i64 DX, .int .i64 DY], 24, true, 2⟩), (5, ⟨[.int .i64 AX, .int .i64 AY, .int .i64 BX, .int .i64 B_Y], 24, true, 2⟩), (7, ⟨[.int .i64 BX, .int .i64 B_Y], 24, true, 2⟩), (10, ⟨[.int .i64 CX, .int .i64 CY, .int .i64 DX, .int .i64 DY], 24, true, 2⟩), (13, ⟨[.int .i64 BX, .int .i64 B_Y, .int .i64 CX, .int .i64 CY], 24, true, 2⟩), (14, ⟨[.int .i64 DX, .int .i64 DY], 24, true, 2⟩)] ?_
              exact K8
            · refine aw_p 130551 (
                .a 3 15 <| .p (does_cb _ (rlies_in AX AY BX B_Y DX DY (by omega) (by omega) (by omega) (by omega) (by omega) (by omega) (by omega) (by omega) (by omega) (by omega) (by omega) (by omega)) false (h20)) <| .a 6 15 <| .nil _ _) ?_
              refine aw_w [(0, .agg #[.int .i64 ax, .int .i64 ay]), (1, .agg #[.int .i64 bx, .int .i64 b_y]), (2, .agg #[.int .i64 cx, .int .i64 cy]), (3, .agg #[.int .i64 dx, .int .i64 dy]), (4, .pointer (some ⟨1, 0, none⟩)), (5, .pointer (some ⟨2, 0, none⟩)), (6, .pointer (some ⟨3, 0, none⟩)), (7, .pointer (some ⟨4, 0, none⟩)), (8, .int .i64 0), (9, .int .i64 (((BX - AX) * (DY - CY)) - ((B_Y - AY) * (DX - CX)))), (10, .slice (some ⟨13, 0, none⟩) 2 0), (12, .pointer (some ⟨7, 0, none⟩)), (14, .pointer (some ⟨14, 0, none⟩)), (47, .bool ((((BX - AX) * (DY - CY)) - ((B_Y - AY) * (DX - CX))) != 0)), (55, .slice (some ⟨5, 0, none⟩) 2 0), (56, .int .i64 2), (57, .int .i64 2), (58, .bool false), (70, .bool true), (78, .slice (some ⟨10, 0, none⟩) 2 0), (79, .int .i64 2), (80, .int .i64 1), (81, .bool true), (93, .bool false)] [(1, ⟨[.int .i64 AX, .int .i64 AY], 24, true, 2⟩), (2, ⟨[.int .i64 BX, .int .i64 B_Y], 24, true, 2⟩), (3, ⟨[.int .i64 CX, .int .i64 CY], 24, true, 2⟩), (4, ⟨[.int .i64 DX, .int .i64 DY], 24, true, 2⟩), (5, ⟨[.int .i64 AX, .int .i64 AY, .int .i64 BX, .int .i64 B_Y], 24, true, 2⟩), (7, ⟨[.int .i64 BX, .int .i64 B_Y], 24, true, 2⟩), (10, ⟨[.int .i64 CX, .int .i64 CY, .int .i64 DX, .int .i64 DY], 24, true, 2⟩), (13, ⟨[.int .i64 BX, .int .i64 B_Y, .int .i64 CX, .int .i64 CY], 24, true, 2⟩), (14, ⟨[.int .i64 DX, .int .i64 DY], 24, true, 2⟩)] ?_
              exact K8
        · refine aw_join (y := sb Try.f20 130551) (S1 := mkSt 0 [(0, .agg #[.int .i64 ax, .int .i64 ay]), (1, .agg #[.int .i64 bx, .int .i64 b_y]), (2, .agg #[.int .i64 cx, .int .i64 cy]), (3, .agg #[.int .i64 dx, .int .i64 dy]), (4, .pointer (some ⟨1, 0, none⟩)), (5, .pointer (some ⟨2, 0, none⟩)), (6, .pointer (some ⟨3, 0, none⟩)), (7, .pointer (some ⟨4, 0, none⟩)), (8, .int .i64 0), (9, .int .i64 (((BX - AX) * (DY - CY)) - ((B_Y - AY) * (DX - CX)))), (10, .slice (some ⟨9, 0, none⟩) 1 0), (12, .pointer (some ⟨7, 0, none⟩)), (14, .pointer (some ⟨11, 0, none⟩)), (47, .bool ((((BX - AX) * (DY - CY)) - ((B_Y - AY) * (DX - CX))) != 0)), (55, .slice (some ⟨5, 0, none⟩) 2 0), (56, .int .i64 2), (57, .int .i64 2), (58, .bool false), (70, .bool true), (78, .slice (some ⟨10, 0, none⟩) 2 0), (79, .int .i64 2), (80, .int .i64 0), (81, .bool true), (93, .bool false)] [(1, ⟨[.int .i64 AX, .int .i64 AY], 24, true, 2⟩), (2, ⟨[.int .i64 BX, .int .i64 B_Y], 24, true, 2⟩), (3, ⟨[.int .i64 CX, .int .i64 CY], 24, true, 2⟩), (4, ⟨[.int .i64 DX, .int .i64 DY], 24, true, 2⟩), (5, ⟨[.int .i64 AX, .int .i64 AY, .int .i64 BX, .int .i64 B_Y], 24, true, 2⟩), (7, ⟨[.int .i64 BX, .int .i64 B_Y], 24, true, 2⟩), (9, ⟨[.int .i64 BX, .int .i64 B_Y], 24, true, 2⟩), (10, ⟨[.int .i64 CX, .int .i64 CY, .int .i64 DX, .int .i64 DY], 24, true, 2⟩), (11, ⟨[.int .i64 CX, .int .i64 CY], 24, true, 2⟩)]) ?_ (fun K9 => ?_)
          · refine aw_fl 261103 ?_
            refine aw_sk ?_
            refine block_normal ?_
            refine then_normal ?_
            refine aw_p1 (
              .a 2 12 <| .nil _ _) ?_
            refine then_normal ?_
            refine al_round ?_
            refine aw_p 4079 (
              .a 1 12 <| .nil _ _) ?_
            refine aw_sq 8158 8159 ?_
            refine aw_tr 16316 ?_
            refine aw_sk ?_
            refine then_normal ?_
            refine aw_sq 16318 16319 ?_
            refine aw_bl 3 32637 ?_
            refine aw_p 65275 (
              .a 4 12 <| .nil _ _) ?_
            rcases Bool.eq_false_or_eq_true (Sp.addb [(BX, B_Y)] DX DY AX AY BX B_Y) with h22 | h22
            · refine aw_p 130551 (
                .a 3 13 <| .p (does_c ((by have q := rlies_in AX AY BX B_Y DX DY (by omega) (by omega) (by omega) (by omega) (by omega) (by omega) (by omega) (by omega) (by omega) (by omega) (by omega) (by omega); rw [Sp.addb_on h22] at q; exact q))) <| .a 3 13 <|
                .p (does_k [9] ((by have q := pcontains1 BX B_Y DX DY; rw [(Sp.addb_no h22)] at q; exact q))) <| .a 2 13 <| .nil _ _) ?_
              refine aw_tr 261102 ?_
              refine aw_p1 (
                .a 3 13 <| .p (does_ap 14) <| .a 1 15 <| .nil _ _) ?_
              refine block_normal ?_
              refine then_normal ?_
              refine aw_p1 (
                .a 2 15 <| .nil _ _) ?_
              refine then_normal ?_
              refine al_round ?_
              refine aw_p 4079 (
                .a 1 15 <| .nil _ _) ?_
              refine aw_w [(0, .agg #[.int .i64 ax, .int .i64 ay]), (1, .agg #[.int .i64 bx, .int .i64 b_y]), (2, .agg #[.int .i64 cx, .int .i64 cy]), (3, .agg #[.int .i64 dx, .int .i64 dy]), (4, .pointer (some ⟨1, 0, none⟩)), (5, .pointer (some ⟨2, 0, none⟩)), (6, .pointer (some ⟨3, 0, none⟩)), (7, .pointer (some ⟨4, 0, none⟩)), (8, .int .i64 0), (9, .int .i64 (((BX - AX) * (DY - CY)) - ((B_Y - AY) * (DX - CX)))), (10, .slice (some ⟨14, 0, none⟩) 2 0), (12, .pointer (some ⟨7, 0, none⟩)), (14, .pointer (some ⟨12, 0, none⟩)), (47, .bool ((((BX - AX) * (DY - CY)) - ((B_Y - AY) * (DX - CX))) != 0)), (55, .slice (some ⟨5, 0, none⟩) 2 0), (56, .int .i64 2), (57, .int .i64 2), (58, .bool false), (70, .bool true), (78, .slice (some ⟨10, 0, none⟩) 2 0), (79, .int .i64 2), (80, .int .i64 2), (81, .bool false), (93, .bool true)] [(1, ⟨[.int .i64 AX, .int .i64 AY], 24, true, 2⟩), (2, ⟨[.int .i64 BX, .int .i64 B_Y], 24, true, 2⟩), (3, ⟨[.int .i64 CX, .int .i64 CY], 24, true, 2⟩), (4, ⟨[.int .i64 DX, .int .i64 DY], 24, true, 2⟩), (5, ⟨[.int .i64 AX, .int .i64 AY, .int .i64 BX, .int .i64 B_Y], 24, true, 2⟩), (7, ⟨[.int .i64 BX, .int .i64 B_Y], 24, true, 2⟩), (10, ⟨[.int .i64 CX, .int .i64 CY, .int .i64 DX, .int .i64 DY], 24, true, 2⟩), (12, ⟨[.int .i64 DX, .int .i64 DY], 24, true, 2⟩), (14, ⟨[.int .i64 BX, .int .i64 B_Y, .int .i64 DX, .int .i64 DY], 24, true, 2⟩)] ?_
              refine aw_sq 8158 8159 ?_
              refine aw_fl 16317 ?_
              refine aw_ex 2 ?_
              refine then_exit ?_
              refine then_exit ?_
              refine block_exit ?_
              refine then_normal ?_
              refine aw_p 511 (
                .a 4 15 <| .nil _ _) ?_
              refine aw_rt ?_
              exact en_ret [.int .i64 2] (show (.int .i64 2 : Value) = (.int .i64 (Sp.meetN AX AY BX B_Y CX CY DX DY)) from (congrArg (Value.int .i64) (show 2 = (Sp.meetN AX AY BX B_Y CX CY DX DY) from by (exact Sp.rsh_par (l := [(BX, B_Y), (DX, DY)]) (by unfold Sp.den4; omega) (by unfold Sp.shr; rw [(show Sp.addp [] AX AY CX CY DX DY = [] from Sp.addp_n h2), (show Sp.addp [] BX B_Y CX CY DX DY = [(BX, B_Y)] from Sp.addp_y h17), (show Sp.addp [(BX, B_Y)] CX CY AX AY BX B_Y = [(BX, B_Y)] from Sp.addp_n h18), (show Sp.addp [(BX, B_Y)] DX DY AX AY BX B_Y = [(BX, B_Y), (DX, DY)] from Sp.addp_y h22)])))))
            · refine aw_join (y := sb Try.f20 130551) (S1 := mkSt 0 [(0, .agg #[.int .i64 ax, .int .i64 ay]), (1, .agg #[.int .i64 bx, .int .i64 b_y]), (2, .agg #[.int .i64 cx, .int .i64 cy]), (3, .agg #[.int .i64 dx, .int .i64 dy]), (4, .pointer (some ⟨1, 0, none⟩)), (5, .pointer (some ⟨2, 0, none⟩)), (6, .pointer (some ⟨3, 0, none⟩)), (7, .pointer (some ⟨4, 0, none⟩)), (8, .int .i64 0), (9, .int .i64 (((BX - AX) * (DY - CY)) - ((B_Y - AY) * (DX - CX)))), (10, .slice (some ⟨9, 0, none⟩) 1 0), (12, .pointer (some ⟨7, 0, none⟩)), (14, .pointer (some ⟨12, 0, none⟩)), (47, .bool ((((BX - AX) * (DY - CY)) - ((B_Y - AY) * (DX - CX))) != 0)), (55, .slice (some ⟨5, 0, none⟩) 2 0), (56, .int .i64 2), (57, .int .i64 2), (58, .bool false), (70, .bool true), (78, .slice (some ⟨10, 0, none⟩) 2 0), (79, .int .i64 2), (80, .int .i64 1), (81, .bool true), (93, .bool false)] [(1, ⟨[.int .i64 AX, .int .i64 AY], 24, true, 2⟩), (2, ⟨[.int .i64 BX, .int .i64 B_Y], 24, true, 2⟩), (3, ⟨[.int .i64 CX, .int .i64 CY], 24, true, 2⟩), (4, ⟨[.int .i64 DX, .int .i64 DY], 24, true, 2⟩), (5, ⟨[.int .i64 AX, .int .i64 AY, .int .i64 BX, .int .i64 B_Y], 24, true, 2⟩), (7, ⟨[.int .i64 BX, .int .i64 B_Y], 24, true, 2⟩), (9, ⟨[.int .i64 BX, .int .i64 B_Y], 24, true, 2⟩), (10, ⟨[.int .i64 CX, .int .i64 CY, .int .i64 DX, .int .i64 DY], 24, true, 2⟩), (12, ⟨[.int .i64 DX, .int .i64 DY], 24, true, 2⟩)]) ?_ (fun K10 => ?_)
              · refine aw_fl 261103 ?_
                refine aw_sk ?_
                refine block_normal ?_
                refine then_normal ?_
                refine aw_p1 (
                  .a 2 13 <| .nil _ _) ?_
                refine then_normal ?_
                refine al_round ?_
                refine aw_p 4079 (
                  .a 1 13 <| .nil _ _) ?_
                refine aw_sq 8158 8159 ?_
                refine aw_fl 16317 ?_
                refine aw_ex 2 ?_
                refine then_exit ?_
                refine then_exit ?_
                refine block_exit ?_
                refine then_normal ?_
                refine aw_p 511 (
                  .a 4 13 <| .nil _ _) ?_
                refine aw_rt ?_
                exact en_ret [.int .i64 1] (show (.int .i64 1 : Value) = (.int .i64 (Sp.meetN AX AY BX B_Y CX CY DX DY)) from (congrArg (Value.int .i64) (show 1 = (Sp.meetN AX AY BX B_Y CX CY DX DY) from by (exact Sp.rsh_par (l := [(BX, B_Y)]) (by unfold Sp.den4; omega) (by unfold Sp.shr; rw [(show Sp.addp [] AX AY CX CY DX DY = [] from Sp.addp_n h2), (show Sp.addp [] BX B_Y CX CY DX DY = [(BX, B_Y)] from Sp.addp_y h17), (show Sp.addp [(BX, B_Y)] CX CY AX AY BX B_Y = [(BX, B_Y)] from Sp.addp_n h18), (show Sp.addp [(BX, B_Y)] DX DY AX AY BX B_Y = [(BX, B_Y)] from Sp.addp_n h22)])))))
              rcases Bool.eq_false_or_eq_true (Sp.onb AX AY BX B_Y DX DY) with h23 | h23
              · refine aw_p 130551 (
                  .a 3 13 <| .p (does_cb _ (rlies_in AX AY BX B_Y DX DY (by omega) (by omega) (by omega) (by omega) (by omega) (by omega) (by omega) (by omega) (by omega) (by omega) (by omega) (by omega)) true (h23)) <| .a 3 13 <|
                  .p (does_k [9] ((by have q := pcontains1 BX B_Y DX DY; rw [(Sp.addb_has h22 h23)] at q; exact q))) <| .a 2 13 <| .nil _ _) ?_
                refine aw_w [(0, .agg #[.int .i64 ax, .int .i64 ay]), (1, .agg #[.int .i64 bx, .int .i64 b_y]), (2, .agg #[.int .i64 cx, .int .i64 cy]), (3, .agg #[.int .i64 dx, .int .i64 dy]), (4, .pointer (some ⟨1, 0, none⟩)), (5, .pointer (some ⟨2, 0, none⟩)), (6, .pointer (some ⟨3, 0, none⟩)), (7, .pointer (some ⟨4, 0, none⟩)), (8, .int .i64 0), (9, .int .i64 (((BX - AX) * (DY - CY)) - ((B_Y - AY) * (DX - CX)))), (10, .slice (some ⟨9, 0, none⟩) 1 0), (12, .pointer (some ⟨7, 0, none⟩)), (14, .pointer (some ⟨12, 0, none⟩)), (47, .bool ((((BX - AX) * (DY - CY)) - ((B_Y - AY) * (DX - CX))) != 0)), (55, .slice (some ⟨5, 0, none⟩) 2 0), (56, .int .i64 2), (57, .int .i64 2), (58, .bool false), (70, .bool true), (78, .slice (some ⟨10, 0, none⟩) 2 0), (79, .int .i64 2), (80, .int .i64 1), (81, .bool true), (93, .bool false)] [(1, ⟨[.int .i64 AX, .int .i64 AY], 24, true, 2⟩), (2, ⟨[.int .i64 BX, .int .i64 B_Y], 24, true, 2⟩), (3, ⟨[.int .i64 CX, .int .i64 CY], 24, true, 2⟩), (4, ⟨[.int .i64 DX, .int .i64 DY], 24, true, 2⟩), (5, ⟨[.int .i64 AX, .int .i64 AY, .int .i64 BX, .int .i64 B_Y], 24, true, 2⟩), (7, ⟨[.int .i64 BX, .int .i64 B_Y], 24, true, 2⟩), (9, ⟨[.int .i64 BX, .int .i64 B_Y], 24, true, 2⟩), (10, ⟨[.int .i64 CX, .int .i64 CY, .int .i64 DX, .int .i64 DY], 24, true, 2⟩), (12, ⟨[.int .i64 DX, .int .i64 DY], 24, true, 2⟩)] ?_
                exact K10
              · refine aw_p 130551 (
                  .a 3 13 <| .p (does_cb _ (rlies_in AX AY BX B_Y DX DY (by omega) (by omega) (by omega) (by omega) (by omega) (by omega) (by omega) (by omega) (by omega) (by omega) (by omega) (by omega)) false (h23)) <| .a 6 13 <| .nil _ _) ?_
                refine aw_w [(0, .agg #[.int .i64 ax, .int .i64 ay]), (1, .agg #[.int .i64 bx, .int .i64 b_y]), (2, .agg #[.int .i64 cx, .int .i64 cy]), (3, .agg #[.int .i64 dx, .int .i64 dy]), (4, .pointer (some ⟨1, 0, none⟩)), (5, .pointer (some ⟨2, 0, none⟩)), (6, .pointer (some ⟨3, 0, none⟩)), (7, .pointer (some ⟨4, 0, none⟩)), (8, .int .i64 0), (9, .int .i64 (((BX - AX) * (DY - CY)) - ((B_Y - AY) * (DX - CX)))), (10, .slice (some ⟨9, 0, none⟩) 1 0), (12, .pointer (some ⟨7, 0, none⟩)), (14, .pointer (some ⟨12, 0, none⟩)), (47, .bool ((((BX - AX) * (DY - CY)) - ((B_Y - AY) * (DX - CX))) != 0)), (55, .slice (some ⟨5, 0, none⟩) 2 0), (56, .int .i64 2), (57, .int .i64 2), (58, .bool false), (70, .bool true), (78, .slice (some ⟨10, 0, none⟩) 2 0), (79, .int .i64 2), (80, .int .i64 1), (81, .bool true), (93, .bool false)] [(1, ⟨[.int .i64 AX, .int .i64 AY], 24, true, 2⟩), (2, ⟨[.int .i64 BX, .int .i64 B_Y], 24, true, 2⟩), (3, ⟨[.int .i64 CX, .int .i64 CY], 24, true, 2⟩), (4, ⟨[.int .i64 DX, .int .i64 DY], 24, true, 2⟩), (5, ⟨[.int .i64 AX, .int .i64 AY, .int .i64 BX, .int .i64 B_Y], 24, true, 2⟩), (7, ⟨[.int .i64 BX, .int .i64 B_Y], 24, true, 2⟩), (9, ⟨[.int .i64 BX, .int .i64 B_Y], 24, true, 2⟩), (10, ⟨[.int .i64 CX, .int .i64 CY, .int .i64 DX, .int .i64 DY], 24, true, 2⟩), (12, ⟨[.int .i64 DX, .int .i64 DY], 24, true, 2⟩)] ?_
                exact K10
          rcases Bool.eq_false_or_eq_true (Sp.onb AX AY BX B_Y CX CY) with h21 | h21
          · refine aw_p 130551 (
              .a 3 12 <| .p (does_cb _ (rlies_in AX AY BX B_Y CX CY (by omega) (by omega) (by omega) (by omega) (by omega) (by omega) (by omega) (by omega) (by omega) (by omega) (by omega) (by omega)) true (h21)) <| .a 3 12 <|
              .p (does_k [9] ((by have q := pcontains1 BX B_Y CX CY; rw [(Sp.addb_has h18 h21)] at q; exact q))) <| .a 2 12 <| .nil _ _) ?_
            refine aw_w [(0, .agg #[.int .i64 ax, .int .i64 ay]), (1, .agg #[.int .i64 bx, .int .i64 b_y]), (2, .agg #[.int .i64 cx, .int .i64 cy]), (3, .agg #[.int .i64 dx, .int .i64 dy]), (4, .pointer (some ⟨1, 0, none⟩)), (5, .pointer (some ⟨2, 0, none⟩)), (6, .pointer (some ⟨3, 0, none⟩)), (7, .pointer (some ⟨4, 0, none⟩)), (8, .int .i64 0), (9, .int .i64 (((BX - AX) * (DY - CY)) - ((B_Y - AY) * (DX - CX)))), (10, .slice (some ⟨9, 0, none⟩) 1 0), (12, .pointer (some ⟨7, 0, none⟩)), (14, .pointer (some ⟨11, 0, none⟩)), (47, .bool ((((BX - AX) * (DY - CY)) - ((B_Y - AY) * (DX - CX))) != 0)), (55, .slice (some ⟨5, 0, none⟩) 2 0), (56, .int .i64 2), (57, .int .i64 2), (58, .bool false), (70, .bool true), (78, .slice (some ⟨10, 0, none⟩) 2 0), (79, .int .i64 2), (80, .int .i64 0), (81, .bool true), (93, .bool false)] [(1, ⟨[.int .i64 AX, .int .i64 AY], 24, true, 2⟩), (2, ⟨[.int .i64 BX, .int .i64 B_Y], 24, true, 2⟩), (3, ⟨[.int .i64 CX, .int .i64 CY], 24, true, 2⟩), (4, ⟨[.int .i64 DX, .int .i64 DY], 24, true, 2⟩), (5, ⟨[.int .i64 AX, .int .i64 AY, .int .i64 BX, .int .i64 B_Y], 24, true, 2⟩), (7, ⟨[.int .i64 BX, .int .i64 B_Y], 24, true, 2⟩), (9, ⟨[.int .i64 BX, .int .i64 B_Y], 24, true, 2⟩), (10, ⟨[.int .i64 CX, .int .i64 CY, .int .i64 DX, .int .i64 DY], 24, true, 2⟩), (11, ⟨[.int .i64 CX, .int .i64 CY], 24, true, 2⟩)] ?_
            exact K9
          · refine aw_p 130551 (
              .a 3 12 <| .p (does_cb _ (rlies_in AX AY BX B_Y CX CY (by omega) (by omega) (by omega) (by omega) (by omega) (by omega) (by omega) (by omega) (by omega) (by omega) (by omega) (by omega)) false (h21)) <| .a 6 12 <| .nil _ _) ?_
            refine aw_w [(0, .agg #[.int .i64 ax, .int .i64 ay]), (1, .agg #[.int .i64 bx, .int .i64 b_y]), (2, .agg #[.int .i64 cx, .int .i64 cy]), (3, .agg #[.int .i64 dx, .int .i64 dy]), (4, .pointer (some ⟨1, 0, none⟩)), (5, .pointer (some ⟨2, 0, none⟩)), (6, .pointer (some ⟨3, 0, none⟩)), (7, .pointer (some ⟨4, 0, none⟩)), (8, .int .i64 0), (9, .int .i64 (((BX - AX) * (DY - CY)) - ((B_Y - AY) * (DX - CX)))), (10, .slice (some ⟨9, 0, none⟩) 1 0), (12, .pointer (some ⟨7, 0, none⟩)), (14, .pointer (some ⟨11, 0, none⟩)), (47, .bool ((((BX - AX) * (DY - CY)) - ((B_Y - AY) * (DX - CX))) != 0)), (55, .slice (some ⟨5, 0, none⟩) 2 0), (56, .int .i64 2), (57, .int .i64 2), (58, .bool false), (70, .bool true), (78, .slice (some ⟨10, 0, none⟩) 2 0), (79, .int .i64 2), (80, .int .i64 0), (81, .bool true), (93, .bool false)] [(1, ⟨[.int .i64 AX, .int .i64 AY], 24, true, 2⟩), (2, ⟨[.int .i64 BX, .int .i64 B_Y], 24, true, 2⟩), (3, ⟨[.int .i64 CX, .int .i64 CY], 24, true, 2⟩), (4, ⟨[.int .i64 DX, .int .i64 DY], 24, true, 2⟩), (5, ⟨[.int .i64 AX, .int .i64 AY, .int .i64 BX, .int .i64 B_Y], 24, true, 2⟩), (7, ⟨[.int .i64 BX, .int .i64 B_Y], 24, true, 2⟩), (9, ⟨[.int .i64 BX, .int .i64 B_Y], 24, true, 2⟩), (10, ⟨[.int .i64 CX, .int .i64 CY, .int .i64 DX, .int .i64 DY], 24, true, 2⟩), (11, ⟨[.int .i64 CX, .int .i64 CY], 24, true, 2⟩)] ?_
            exact K9
      · refine aw_p 65015 (
          .a 3 8 <|
          .p (does_c ((by have q := rlies_in CX CY DX DY BX B_Y (by omega) (by omega) (by omega) (by omega) (by omega) (by omega) (by omega) (by omega) (by omega) (by omega) (by omega) (by omega); rw [show Sp.onb CX CY DX DY BX B_Y = false from by simpa [Sp.addb, Sp.has2] using h17] at q; exact q))) <|
          .a 6 8 <| .nil _ _) ?_
        refine aw_fl 130031 ?_
        refine aw_sk ?_
        refine block_normal ?_
        refine then_normal ?_
        refine aw_p1 (
          .a 2 8 <| .nil _ _) ?_
        refine then_normal ?_
        refine al_round ?_
        refine aw_p 2031 (
          .a 1 8 <| .nil _ _) ?_
        refine aw_sq 4062 4063 ?_
        refine aw_fl 8125 ?_
        refine aw_ex 0 ?_
        refine then_exit ?_
        refine then_exit ?_
        refine block_exit ?_
        refine then_normal ?_
        refine aw_sq 254 255 ?_
        refine aw_p 509 (
          .a 5 8 <| .nil _ _) ?_
        refine aw_bl 2 1019 ?_
        refine aw_lp 2039 ?_
        refine al_round ?_
        refine aw_p 4079 (
          .a 1 9 <| .nil _ _) ?_
        refine aw_sq 8158 8159 ?_
        refine aw_tr 16316 ?_
        refine aw_sk ?_
        refine then_normal ?_
        refine aw_sq 16318 16319 ?_
        refine aw_bl 3 32637 ?_
        refine aw_p 65275 (
          .a 4 9 <| .nil _ _) ?_
        refine aw_w [(0, .agg #[.int .i64 ax, .int .i64 ay]), (1, .agg #[.int .i64 bx, .int .i64 b_y]), (2, .agg #[.int .i64 cx, .int .i64 cy]), (3, .agg #[.int .i64 dx, .int .i64 dy]), (4, .pointer (some ⟨1, 0, none⟩)), (5, .pointer (some ⟨2, 0, none⟩)), (6, .pointer (some ⟨3, 0, none⟩)), (7, .pointer (some ⟨4, 0, none⟩)), (8, .int .i64 0), (9, .int .i64 (((BX - AX) * (DY - CY)) - ((B_Y - AY) * (DX - CX)))), (10, .slice none 0 0), (12, .pointer (some ⟨7, 0, none⟩)), (14, .pointer (some ⟨9, 0, none⟩)), (47, .bool ((((BX - AX) * (DY - CY)) - ((B_Y - AY) * (DX - CX))) != 0)), (55, .slice (some ⟨5, 0, none⟩) 2 0), (56, .int .i64 2), (57, .int .i64 2), (58, .bool false), (70, .bool false), (78, .slice (some ⟨8, 0, none⟩) 2 0), (79, .int .i64 2), (80, .int .i64 0), (81, .bool true)] [(1, ⟨[.int .i64 AX, .int .i64 AY], 24, true, 2⟩), (2, ⟨[.int .i64 BX, .int .i64 B_Y], 24, true, 2⟩), (3, ⟨[.int .i64 CX, .int .i64 CY], 24, true, 2⟩), (4, ⟨[.int .i64 DX, .int .i64 DY], 24, true, 2⟩), (5, ⟨[.int .i64 AX, .int .i64 AY, .int .i64 BX, .int .i64 B_Y], 24, true, 2⟩), (7, ⟨[.int .i64 BX, .int .i64 B_Y], 24, true, 2⟩), (8, ⟨[.int .i64 CX, .int .i64 CY, .int .i64 DX, .int .i64 DY], 24, true, 2⟩), (9, ⟨[.int .i64 CX, .int .i64 CY], 24, true, 2⟩)] ?_
        rcases Bool.eq_false_or_eq_true (Sp.addb [] CX CY AX AY BX B_Y) with h24 | h24
        · refine aw_p 130551 (
            .a 3 10 <| .p (does_c ((by have q := rlies_in AX AY BX B_Y CX CY (by omega) (by omega) (by omega) (by omega) (by omega) (by omega) (by omega) (by omega) (by omega) (by omega) (by omega) (by omega); rw [Sp.addb_on h24] at q; exact q))) <| .a 3 10 <| .p (does_c (pcontains0 CX CY)) <| .a 2 10 <| .nil _ _) ?_
          refine aw_tr 261102 ?_
          refine aw_p1 (
            .a 3 10 <| .p (does_ap 11) <| .a 1 12 <| .nil _ _) ?_
          refine block_normal ?_
          refine then_normal ?_
          refine aw_p1 (
            .a 2 12 <| .nil _ _) ?_
          refine then_normal ?_
          refine al_round ?_
          refine aw_p 4079 (
            .a 1 12 <| .nil _ _) ?_
          refine aw_sq 8158 8159 ?_
          refine aw_tr 16316 ?_
          refine aw_sk ?_
          refine then_normal ?_
          refine aw_sq 16318 16319 ?_
          refine aw_bl 3 32637 ?_
          refine aw_p 65275 (
            .a 4 12 <| .nil _ _) ?_
          rcases Bool.eq_false_or_eq_true (Sp.addb [(CX, CY)] DX DY AX AY BX B_Y) with h25 | h25
          · refine aw_p 130551 (
              .a 3 13 <| .p (does_c ((by have q := rlies_in AX AY BX B_Y DX DY (by omega) (by omega) (by omega) (by omega) (by omega) (by omega) (by omega) (by omega) (by omega) (by omega) (by omega) (by omega); rw [Sp.addb_on h25] at q; exact q))) <| .a 3 13 <|
              .p (does_k [11] ((by have q := pcontains1 CX CY DX DY; rw [(Sp.addb_no h25)] at q; exact q))) <| .a 2 13 <| .nil _ _) ?_
            refine aw_w [(0, .agg #[.int .i64 ax, .int .i64 ay]), (1, .agg #[.int .i64 bx, .int .i64 b_y]), (2, .agg #[.int .i64 cx, .int .i64 cy]), (3, .agg #[.int .i64 dx, .int .i64 dy]), (4, .pointer (some ⟨1, 0, none⟩)), (5, .pointer (some ⟨2, 0, none⟩)), (6, .pointer (some ⟨3, 0, none⟩)), (7, .pointer (some ⟨4, 0, none⟩)), (8, .int .i64 0), (9, .int .i64 (((BX - AX) * (DY - CY)) - ((B_Y - AY) * (DX - CX)))), (10, .slice (some ⟨11, 0, none⟩) 1 0), (12, .pointer (some ⟨7, 0, none⟩)), (14, .pointer (some ⟨12, 0, none⟩)), (47, .bool ((((BX - AX) * (DY - CY)) - ((B_Y - AY) * (DX - CX))) != 0)), (55, .slice (some ⟨5, 0, none⟩) 2 0), (56, .int .i64 2), (57, .int .i64 2), (58, .bool false), (70, .bool false), (78, .slice (some ⟨8, 0, none⟩) 2 0), (79, .int .i64 2), (80, .int .i64 1), (81, .bool true), (93, .bool true)] [(1, ⟨[.int .i64 AX, .int .i64 AY], 24, true, 2⟩), (2, ⟨[.int .i64 BX, .int .i64 B_Y], 24, true, 2⟩), (3, ⟨[.int .i64 CX, .int .i64 CY], 24, true, 2⟩), (4, ⟨[.int .i64 DX, .int .i64 DY], 24, true, 2⟩), (5, ⟨[.int .i64 AX, .int .i64 AY, .int .i64 BX, .int .i64 B_Y], 24, true, 2⟩), (7, ⟨[.int .i64 BX, .int .i64 B_Y], 24, true, 2⟩), (8, ⟨[.int .i64 CX, .int .i64 CY, .int .i64 DX, .int .i64 DY], 24, true, 2⟩), (11, ⟨[.int .i64 CX, .int .i64 CY], 24, true, 2⟩), (12, ⟨[.int .i64 DX, .int .i64 DY], 24, true, 2⟩)] ?_
            refine aw_tr 261102 ?_
            refine aw_p1 (
              .a 3 13 <| .p (does_ap 14) <| .a 1 15 <| .nil _ _) ?_
            refine block_normal ?_
            refine then_normal ?_
            refine aw_p1 (
              .a 2 15 <| .nil _ _) ?_
            refine then_normal ?_
            refine al_round ?_
            refine aw_p 4079 (
              .a 1 15 <| .nil _ _) ?_
            refine aw_sq 8158 8159 ?_
            refine aw_fl 16317 ?_
            refine aw_ex 2 ?_
            refine then_exit ?_
            refine then_exit ?_
            refine block_exit ?_
            refine then_normal ?_
            refine aw_p 511 (
              .a 4 15 <| .nil _ _) ?_
            refine aw_rt ?_
            exact en_ret [.int .i64 2] (show (.int .i64 2 : Value) = (.int .i64 (Sp.meetN AX AY BX B_Y CX CY DX DY)) from (congrArg (Value.int .i64) (show 2 = (Sp.meetN AX AY BX B_Y CX CY DX DY) from by (exact Sp.rsh_par (l := [(CX, CY), (DX, DY)]) (by unfold Sp.den4; omega) (by unfold Sp.shr; rw [(show Sp.addp [] AX AY CX CY DX DY = [] from Sp.addp_n h2), (show Sp.addp [] BX B_Y CX CY DX DY = [] from Sp.addp_n h17), (show Sp.addp [] CX CY AX AY BX B_Y = [(CX, CY)] from Sp.addp_y h24), (show Sp.addp [(CX, CY)] DX DY AX AY BX B_Y = [(CX, CY), (DX, DY)] from Sp.addp_y h25)])))))
          · refine aw_join (y := sb Try.f20 130551) (S1 := mkSt 0 [(0, .agg #[.int .i64 ax, .int .i64 ay]), (1, .agg #[.int .i64 bx, .int .i64 b_y]), (2, .agg #[.int .i64 cx, .int .i64 cy]), (3, .agg #[.int .i64 dx, .int .i64 dy]), (4, .pointer (some ⟨1, 0, none⟩)), (5, .pointer (some ⟨2, 0, none⟩)), (6, .pointer (some ⟨3, 0, none⟩)), (7, .pointer (some ⟨4, 0, none⟩)), (8, .int .i64 0), (9, .int .i64 (((BX - AX) * (DY - CY)) - ((B_Y - AY) * (DX - CX)))), (10, .slice (some ⟨11, 0, none⟩) 1 0), (12, .pointer (some ⟨7, 0, none⟩)), (14, .pointer (some ⟨12, 0, none⟩)), (47, .bool ((((BX - AX) * (DY - CY)) - ((B_Y - AY) * (DX - CX))) != 0)), (55, .slice (some ⟨5, 0, none⟩) 2 0), (56, .int .i64 2), (57, .int .i64 2), (58, .bool false), (70, .bool false), (78, .slice (some ⟨8, 0, none⟩) 2 0), (79, .int .i64 2), (80, .int .i64 1), (81, .bool true), (93, .bool false)] [(1, ⟨[.int .i64 AX, .int .i64 AY], 24, true, 2⟩), (2, ⟨[.int .i64 BX, .int .i64 B_Y], 24, true, 2⟩), (3, ⟨[.int .i64 CX, .int .i64 CY], 24, true, 2⟩), (4, ⟨[.int .i64 DX, .int .i64 DY], 24, true, 2⟩), (5, ⟨[.int .i64 AX, .int .i64 AY, .int .i64 BX, .int .i64 B_Y], 24, true, 2⟩), (7, ⟨[.int .i64 BX, .int .i64 B_Y], 24, true, 2⟩), (8, ⟨[.int .i64 CX, .int .i64 CY, .int .i64 DX, .int .i64 DY], 24, true, 2⟩), (11, ⟨[.int .i64 CX, .int .i64 CY], 24, true, 2⟩), (12, ⟨[.int .i64 DX, .int .i64 DY], 24, true, 2⟩)]) ?_ (fun K11 => ?_)
            · refine aw_fl 261103 ?_
              refine aw_sk ?_
              refine block_normal ?_
              refine then_normal ?_
              refine aw_p1 (
                .a 2 13 <| .nil _ _) ?_
              refine then_normal ?_
              refine al_round ?_
              refine aw_p 4079 (
                .a 1 13 <| .nil _ _) ?_
              refine aw_w [(0, .agg #[.int .i64 ax, .int .i64 ay]), (1, .agg #[.int .i64 bx, .int .i64 b_y]), (2, .agg #[.int .i64 cx, .int .i64 cy]), (3, .agg #[.int .i64 dx, .int .i64 dy]), (4, .pointer (some ⟨1, 0, none⟩)), (5, .pointer (some ⟨2, 0, none⟩)), (6, .pointer (some ⟨3, 0, none⟩)), (7, .pointer (some ⟨4, 0, none⟩)), (8, .int .i64 0), (9, .int .i64 (((BX - AX) * (DY - CY)) - ((B_Y - AY) * (DX - CX)))), (10, .slice (some ⟨11, 0, none⟩) 1 0), (12, .pointer (some ⟨7, 0, none⟩)), (14, .pointer (some ⟨12, 0, none⟩)), (47, .bool ((((BX - AX) * (DY - CY)) - ((B_Y - AY) * (DX - CX))) != 0)), (55, .slice (some ⟨5, 0, none⟩) 2 0), (56, .int .i64 2), (57, .int .i64 2), (58, .bool false), (70, .bool false), (78, .slice (some ⟨8, 0, none⟩) 2 0), (79, .int .i64 2), (80, .int .i64 2), (81, .bool false), (93, .bool false)] [(1, ⟨[.int .i64 AX, .int .i64 AY], 24, true, 2⟩), (2, ⟨[.int .i64 BX, .int .i64 B_Y], 24, true, 2⟩), (3, ⟨[.int .i64 CX, .int .i64 CY], 24, true, 2⟩), (4, ⟨[.int .i64 DX, .int .i64 DY], 24, true, 2⟩), (5, ⟨[.int .i64 AX, .int .i64 AY, .int .i64 BX, .int .i64 B_Y], 24, true, 2⟩), (7, ⟨[.int .i64 BX, .int .i64 B_Y], 24, true, 2⟩), (8, ⟨[.int .i64 CX, .int .i64 CY, .int .i64 DX, .int .i64 DY], 24, true, 2⟩), (11, ⟨[.int .i64 CX, .int .i64 CY], 24, true, 2⟩), (12, ⟨[.int .i64 DX, .int .i64 DY], 24, true, 2⟩)] ?_
              refine aw_sq 8158 8159 ?_
              refine aw_fl 16317 ?_
              refine aw_ex 2 ?_
              refine then_exit ?_
              refine then_exit ?_
              refine block_exit ?_
              refine then_normal ?_
              refine aw_p 511 (
                .a 4 13 <| .nil _ _) ?_
              refine aw_rt ?_
              exact en_ret [.int .i64 1] (show (.int .i64 1 : Value) = (.int .i64 (Sp.meetN AX AY BX B_Y CX CY DX DY)) from (congrArg (Value.int .i64) (show 1 = (Sp.meetN AX AY BX B_Y CX CY DX DY) from by (exact Sp.rsh_par (l := [(CX, CY)]) (by unfold Sp.den4; omega) (by unfold Sp.shr; rw [(show Sp.addp [] AX AY CX CY DX DY = [] from Sp.addp_n h2), (show Sp.addp [] BX B_Y CX CY DX DY = [] from Sp.addp_n h17), (show Sp.addp [] CX CY AX AY BX B_Y = [(CX, CY)] from Sp.addp_y h24), (show Sp.addp [(CX, CY)] DX DY AX AY BX B_Y = [(CX, CY)] from Sp.addp_n h25)])))))
            rcases Bool.eq_false_or_eq_true (Sp.onb AX AY BX B_Y DX DY) with h26 | h26
            · refine aw_p 130551 (
                .a 3 13 <| .p (does_cb _ (rlies_in AX AY BX B_Y DX DY (by omega) (by omega) (by omega) (by omega) (by omega) (by omega) (by omega) (by omega) (by omega) (by omega) (by omega) (by omega)) true (h26)) <| .a 3 13 <|
                .p (does_k [11] ((by have q := pcontains1 CX CY DX DY; rw [(Sp.addb_has h25 h26)] at q; exact q))) <| .a 2 13 <| .nil _ _) ?_
              refine aw_w [(0, .agg #[.int .i64 ax, .int .i64 ay]), (1, .agg #[.int .i64 bx, .int .i64 b_y]), (2, .agg #[.int .i64 cx, .int .i64 cy]), (3, .agg #[.int .i64 dx, .int .i64 dy]), (4, .pointer (some ⟨1, 0, none⟩)), (5, .pointer (some ⟨2, 0, none⟩)), (6, .pointer (some ⟨3, 0, none⟩)), (7, .pointer (some ⟨4, 0, none⟩)), (8, .int .i64 0), (9, .int .i64 (((BX - AX) * (DY - CY)) - ((B_Y - AY) * (DX - CX)))), (10, .slice (some ⟨11, 0, none⟩) 1 0), (12, .pointer (some ⟨7, 0, none⟩)), (14, .pointer (some ⟨12, 0, none⟩)), (47, .bool ((((BX - AX) * (DY - CY)) - ((B_Y - AY) * (DX - CX))) != 0)), (55, .slice (some ⟨5, 0, none⟩) 2 0), (56, .int .i64 2), (57, .int .i64 2), (58, .bool false), (70, .bool false), (78, .slice (some ⟨8, 0, none⟩) 2 0), (79, .int .i64 2), (80, .int .i64 1), (81, .bool true), (93, .bool false)] [(1, ⟨[.int .i64 AX, .int .i64 AY], 24, true, 2⟩), (2, ⟨[.int .i64 BX, .int .i64 B_Y], 24, true, 2⟩), (3, ⟨[.int .i64 CX, .int .i64 CY], 24, true, 2⟩), (4, ⟨[.int .i64 DX, .int .i64 DY], 24, true, 2⟩), (5, ⟨[.int .i64 AX, .int .i64 AY, .int .i64 BX, .int .i64 B_Y], 24, true, 2⟩), (7, ⟨[.int .i64 BX, .int .i64 B_Y], 24, true, 2⟩), (8, ⟨[.int .i64 CX, .int .i64 CY, .int .i64 DX, .int .i64 DY], 24, true, 2⟩), (11, ⟨[.int .i64 CX, .int .i64 CY], 24, true, 2⟩), (12, ⟨[.int .i64 DX, .int .i64 DY], 24, true, 2⟩)] ?_
              exact K11
            · refine aw_p 130551 (
                .a 3 13 <| .p (does_cb _ (rlies_in AX AY BX B_Y DX DY (by omega) (by omega) (by omega) (by omega) (by omega) (by omega) (by omega) (by omega) (by omega) (by omega) (by omega) (by omega)) false (h26)) <| .a 6 13 <| .nil _ _) ?_
              refine aw_w [(0, .agg #[.int .i64 ax, .int .i64 ay]), (1, .agg #[.int .i64 bx, .int .i64 b_y]), (2, .agg #[.int .i64 cx, .int .i64 cy]), (3, .agg #[.int .i64 dx, .int .i64 dy]), (4, .pointer (some ⟨1, 0, none⟩)), (5, .pointer (some ⟨2, 0, none⟩)), (6, .pointer (some ⟨3, 0, none⟩)), (7, .pointer (some ⟨4, 0, none⟩)), (8, .int .i64 0), (9, .int .i64 (((BX - AX) * (DY - CY)) - ((B_Y - AY) * (DX - CX)))), (10, .slice (some ⟨11, 0, none⟩) 1 0), (12, .pointer (some ⟨7, 0, none⟩)), (14, .pointer (some ⟨12, 0, none⟩)), (47, .bool ((((BX - AX) * (DY - CY)) - ((B_Y - AY) * (DX - CX))) != 0)), (55, .slice (some ⟨5, 0, none⟩) 2 0), (56, .int .i64 2), (57, .int .i64 2), (58, .bool false), (70, .bool false), (78, .slice (some ⟨8, 0, none⟩) 2 0), (79, .int .i64 2), (80, .int .i64 1), (81, .bool true), (93, .bool false)] [(1, ⟨[.int .i64 AX, .int .i64 AY], 24, true, 2⟩), (2, ⟨[.int .i64 BX, .int .i64 B_Y], 24, true, 2⟩), (3, ⟨[.int .i64 CX, .int .i64 CY], 24, true, 2⟩), (4, ⟨[.int .i64 DX, .int .i64 DY], 24, true, 2⟩), (5, ⟨[.int .i64 AX, .int .i64 AY, .int .i64 BX, .int .i64 B_Y], 24, true, 2⟩), (7, ⟨[.int .i64 BX, .int .i64 B_Y], 24, true, 2⟩), (8, ⟨[.int .i64 CX, .int .i64 CY, .int .i64 DX, .int .i64 DY], 24, true, 2⟩), (11, ⟨[.int .i64 CX, .int .i64 CY], 24, true, 2⟩), (12, ⟨[.int .i64 DX, .int .i64 DY], 24, true, 2⟩)] ?_
              exact K11
        · refine aw_p 130551 (
            .a 3 10 <|
            .p (does_c ((by have q := rlies_in AX AY BX B_Y CX CY (by omega) (by omega) (by omega) (by omega) (by omega) (by omega) (by omega) (by omega) (by omega) (by omega) (by omega) (by omega); rw [show Sp.onb AX AY BX B_Y CX CY = false from by simpa [Sp.addb, Sp.has2] using h24] at q; exact q))) <|
            .a 6 10 <| .nil _ _) ?_
          refine aw_fl 261103 ?_
          refine aw_sk ?_
          refine block_normal ?_
          refine then_normal ?_
          refine aw_p1 (
            .a 2 10 <| .nil _ _) ?_
          refine then_normal ?_
          refine al_round ?_
          refine aw_p 4079 (
            .a 1 10 <| .nil _ _) ?_
          refine aw_sq 8158 8159 ?_
          refine aw_tr 16316 ?_
          refine aw_sk ?_
          refine then_normal ?_
          refine aw_sq 16318 16319 ?_
          refine aw_bl 3 32637 ?_
          refine aw_p 65275 (
            .a 4 10 <| .nil _ _) ?_
          rcases Bool.eq_false_or_eq_true (Sp.addb [] DX DY AX AY BX B_Y) with h27 | h27
          · refine aw_p 130551 (
              .a 3 11 <| .p (does_c ((by have q := rlies_in AX AY BX B_Y DX DY (by omega) (by omega) (by omega) (by omega) (by omega) (by omega) (by omega) (by omega) (by omega) (by omega) (by omega) (by omega); rw [Sp.addb_on h27] at q; exact q))) <| .a 3 11 <| .p (does_c (pcontains0 DX DY)) <| .a 2 11 <| .nil _ _) ?_
            refine aw_w [(0, .agg #[.int .i64 ax, .int .i64 ay]), (1, .agg #[.int .i64 bx, .int .i64 b_y]), (2, .agg #[.int .i64 cx, .int .i64 cy]), (3, .agg #[.int .i64 dx, .int .i64 dy]), (4, .pointer (some ⟨1, 0, none⟩)), (5, .pointer (some ⟨2, 0, none⟩)), (6, .pointer (some ⟨3, 0, none⟩)), (7, .pointer (some ⟨4, 0, none⟩)), (8, .int .i64 0), (9, .int .i64 (((BX - AX) * (DY - CY)) - ((B_Y - AY) * (DX - CX)))), (10, .slice none 0 0), (12, .pointer (some ⟨7, 0, none⟩)), (14, .pointer (some ⟨10, 0, none⟩)), (47, .bool ((((BX - AX) * (DY - CY)) - ((B_Y - AY) * (DX - CX))) != 0)), (55, .slice (some ⟨5, 0, none⟩) 2 0), (56, .int .i64 2), (57, .int .i64 2), (58, .bool false), (70, .bool false), (78, .slice (some ⟨8, 0, none⟩) 2 0), (79, .int .i64 2), (80, .int .i64 1), (81, .bool true), (93, .bool true)] [(1, ⟨[.int .i64 AX, .int .i64 AY], 24, true, 2⟩), (2, ⟨[.int .i64 BX, .int .i64 B_Y], 24, true, 2⟩), (3, ⟨[.int .i64 CX, .int .i64 CY], 24, true, 2⟩), (4, ⟨[.int .i64 DX, .int .i64 DY], 24, true, 2⟩), (5, ⟨[.int .i64 AX, .int .i64 AY, .int .i64 BX, .int .i64 B_Y], 24, true, 2⟩), (7, ⟨[.int .i64 BX, .int .i64 B_Y], 24, true, 2⟩), (8, ⟨[.int .i64 CX, .int .i64 CY, .int .i64 DX, .int .i64 DY], 24, true, 2⟩), (10, ⟨[.int .i64 DX, .int .i64 DY], 24, true, 2⟩)] ?_
            refine aw_tr 261102 ?_
            refine aw_p1 (
              .a 3 11 <| .p (does_ap 12) <| .a 1 13 <| .nil _ _) ?_
            refine block_normal ?_
            refine then_normal ?_
            refine aw_p1 (
              .a 2 13 <| .nil _ _) ?_
            refine then_normal ?_
            refine al_round ?_
            refine aw_p 4079 (
              .a 1 13 <| .nil _ _) ?_
            refine aw_sq 8158 8159 ?_
            refine aw_fl 16317 ?_
            refine aw_ex 2 ?_
            refine then_exit ?_
            refine then_exit ?_
            refine block_exit ?_
            refine then_normal ?_
            refine aw_p 511 (
              .a 4 13 <| .nil _ _) ?_
            refine aw_rt ?_
            exact en_ret [.int .i64 1] (show (.int .i64 1 : Value) = (.int .i64 (Sp.meetN AX AY BX B_Y CX CY DX DY)) from (congrArg (Value.int .i64) (show 1 = (Sp.meetN AX AY BX B_Y CX CY DX DY) from by (exact Sp.rsh_par (l := [(DX, DY)]) (by unfold Sp.den4; omega) (by unfold Sp.shr; rw [(show Sp.addp [] AX AY CX CY DX DY = [] from Sp.addp_n h2), (show Sp.addp [] BX B_Y CX CY DX DY = [] from Sp.addp_n h17), (show Sp.addp [] CX CY AX AY BX B_Y = [] from Sp.addp_n h24), (show Sp.addp [] DX DY AX AY BX B_Y = [(DX, DY)] from Sp.addp_y h27)])))))
          · refine aw_p 130551 (
              .a 3 11 <|
              .p (does_c ((by have q := rlies_in AX AY BX B_Y DX DY (by omega) (by omega) (by omega) (by omega) (by omega) (by omega) (by omega) (by omega) (by omega) (by omega) (by omega) (by omega); rw [show Sp.onb AX AY BX B_Y DX DY = false from by simpa [Sp.addb, Sp.has2] using h27] at q; exact q))) <|
              .a 6 11 <| .nil _ _) ?_
            refine aw_w [(0, .agg #[.int .i64 ax, .int .i64 ay]), (1, .agg #[.int .i64 bx, .int .i64 b_y]), (2, .agg #[.int .i64 cx, .int .i64 cy]), (3, .agg #[.int .i64 dx, .int .i64 dy]), (4, .pointer (some ⟨1, 0, none⟩)), (5, .pointer (some ⟨2, 0, none⟩)), (6, .pointer (some ⟨3, 0, none⟩)), (7, .pointer (some ⟨4, 0, none⟩)), (8, .int .i64 0), (9, .int .i64 (((BX - AX) * (DY - CY)) - ((B_Y - AY) * (DX - CX)))), (10, .slice none 0 0), (12, .pointer (some ⟨7, 0, none⟩)), (14, .pointer (some ⟨10, 0, none⟩)), (47, .bool ((((BX - AX) * (DY - CY)) - ((B_Y - AY) * (DX - CX))) != 0)), (55, .slice (some ⟨5, 0, none⟩) 2 0), (56, .int .i64 2), (57, .int .i64 2), (58, .bool false), (70, .bool false), (78, .slice (some ⟨8, 0, none⟩) 2 0), (79, .int .i64 2), (80, .int .i64 1), (81, .bool true), (93, .bool false)] [(1, ⟨[.int .i64 AX, .int .i64 AY], 24, true, 2⟩), (2, ⟨[.int .i64 BX, .int .i64 B_Y], 24, true, 2⟩), (3, ⟨[.int .i64 CX, .int .i64 CY], 24, true, 2⟩), (4, ⟨[.int .i64 DX, .int .i64 DY], 24, true, 2⟩), (5, ⟨[.int .i64 AX, .int .i64 AY, .int .i64 BX, .int .i64 B_Y], 24, true, 2⟩), (7, ⟨[.int .i64 BX, .int .i64 B_Y], 24, true, 2⟩), (8, ⟨[.int .i64 CX, .int .i64 CY, .int .i64 DX, .int .i64 DY], 24, true, 2⟩), (10, ⟨[.int .i64 DX, .int .i64 DY], 24, true, 2⟩)] ?_
            refine aw_fl 261103 ?_
            refine aw_sk ?_
            refine block_normal ?_
            refine then_normal ?_
            refine aw_p1 (
              .a 2 11 <| .nil _ _) ?_
            refine then_normal ?_
            refine al_round ?_
            refine aw_p 4079 (
              .a 1 11 <| .nil _ _) ?_
            refine aw_sq 8158 8159 ?_
            refine aw_fl 16317 ?_
            refine aw_ex 2 ?_
            refine then_exit ?_
            refine then_exit ?_
            refine block_exit ?_
            refine then_normal ?_
            refine aw_p 511 (
              .a 4 11 <| .nil _ _) ?_
            refine aw_rt ?_
            exact en_ret [.int .i64 0] (show (.int .i64 0 : Value) = (.int .i64 (Sp.meetN AX AY BX B_Y CX CY DX DY)) from (congrArg (Value.int .i64) (show 0 = (Sp.meetN AX AY BX B_Y CX CY DX DY) from by (exact Sp.rsh_par (l := []) (by unfold Sp.den4; omega) (by unfold Sp.shr; rw [(show Sp.addp [] AX AY CX CY DX DY = [] from Sp.addp_n h2), (show Sp.addp [] BX B_Y CX CY DX DY = [] from Sp.addp_n h17), (show Sp.addp [] CX CY AX AY BX B_Y = [] from Sp.addp_n h24), (show Sp.addp [] DX DY AX AY BX B_Y = [] from Sp.addp_n h27)])))))

theorem rshared_in (ax ay bx b_y cx cy dx dy : Int) (axl : -1048576 ≤ ax) (axu : ax ≤ 1048576) (ayl : -1048576 ≤ ay) (ayu : ay ≤ 1048576) (bxl : -1048576 ≤ bx) (bxu : bx ≤ 1048576) (b_yl : -1048576 ≤ b_y) (b_yu : b_y ≤ 1048576) (cxl : -1048576 ≤ cx) (cxu : cx ≤ 1048576) (cyl : -1048576 ≤ cy) (cyu : cy ≤ 1048576) (dxl : -1048576 ≤ dx) (dxu : dx ≤ 1048576) (dyl : -1048576 ≤ dy) (dyu : dy ≤ 1048576) : AC Try.prog 20 0 [.agg #[.int .i64 ax, .int .i64 ay], .agg #[.int .i64 bx, .int .i64 b_y], .agg #[.int .i64 cx, .int .i64 cy], .agg #[.int .i64 dx, .int .i64 dy]] [] (.int .i64 (Sp.meetN ax ay bx b_y cx cy dx dy)) [] := by
  have q := @rshared_any ax ay bx b_y cx cy dx dy
  simp only [Sp.lim_id axl axu, Sp.lim_id ayl ayu, Sp.lim_id bxl bxu, Sp.lim_id b_yl b_yu, Sp.lim_id cxl cxu, Sp.lim_id cyl cyu, Sp.lim_id dxl dxu, Sp.lim_id dyl dyu] at q
  exact q

end Go.Proofs.Ytigllakcfdoagaa.Am
