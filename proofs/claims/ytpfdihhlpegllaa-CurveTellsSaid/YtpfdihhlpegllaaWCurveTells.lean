/-
  The walk of the law CurveTells.
-/
import Derived.Test.YtpfdihhlpegllaaProg
import Derived.Test.YtpfdihhlpegllaaCw
namespace Go.Proofs.Ytpfdihhlpegllaa.Am
open Go Go.Proofs
set_option maxRecDepth 100000
set_option maxHeartbeats 4000000
set_option linter.unusedVariables false
set_option linter.unusedSimpArgs false

theorem curveTells_walk (x y n : Int) :
    AC Try.prog 4 0 ([.agg #[.int .i64 x, .int .i64 y], .int .i64 n]) [] (.bool true) [] := by
  refine ac_intro (fn := Try.f4) (c := bodyOf Try.f4) Try.func4 (by kernel_rfl) (by kernel_rfl) (by kernel_rfl) ?_
  intro w0 W pin
  refine aw_sub ?_
  refine aw_plain_seq (r := sub (bodyOf Try.f4) [false]) (y := sub (bodyOf Try.f4) [true]) (id := 0) (ops := regOps (sub (bodyOf Try.f4) [false])) (by kernel_rfl) (by kernel_rfl) (by kernel_rfl) (by kernel_rfl) (
      .cons (d := some 2) (by kernel_rfl) (does_box (t := 24) (x := .tmp 0) (k := 1) (v := .agg #[.int .i64 x, .int .i64 y]) (cells := [.int .i64 x, .int .i64 y]) (by kernel_rfl) (by kernel_rfl) (by kernel_rfl) (by kernel_rfl)) <|
      .cons (d := some 4) (by kernel_rfl) (does_assign (x := .const (.bool false)) (v := .bool false) (by kernel_rfl) (by kernel_rfl)) <|
      .nil _ _) ?_
  refine aw_seq (x := sub (bodyOf Try.f4) [true, false]) (y := sub (bodyOf Try.f4) [true, true]) (by kernel_rfl) ?_
  refine aw_plain_seq (r := sub (bodyOf Try.f4) [true, false, false]) (y := sub (bodyOf Try.f4) [true, false, true]) (id := 1) (ops := regOps (sub (bodyOf Try.f4) [true, false, false])) (by kernel_rfl) (by kernel_rfl) (by kernel_rfl) (by kernel_rfl) (
      .cons (d := some 10) (by kernel_rfl) (does_call0 (x := .func 17) (ars := #[.const (.int .i64 (-1048576)), .const (.int .i64 (-1048576))]) (ats := #[3, 3]) (g := 17) (vs := [.int .i64 (-1048576), .int .i64 (-1048576)]) (v := .agg #[.int .i64 (-1048576), .int .i64 (-1048576)]) (by kernel_rfl) (by kernel_rfl) (by kernel_rfl) (by kernel_rfl) (terrlaw1_at_ok (-1048576) (-1048576)) (by kernel_rfl) (by kernel_rfl)) <|
      .cons (d := some 11) (by kernel_rfl) (does_call0 (x := .func 26) (ars := #[.tmp 10]) (ats := #[24]) (g := 26) (vs := [.agg #[.int .i64 (-1048576), .int .i64 (-1048576)]]) (v := .int .i64 (Sp.index (-1048576) (-1048576))) (by kernel_rfl) (by kernel_rfl) (by kernel_rfl) (by kernel_rfl) (cindex_ok (-1048576) (-1048576)) (by kernel_rfl) (by kernel_rfl)) <|
      .cons (d := some 12) (by kernel_rfl) (does_bool (b' := false) (does_pure (v := .bool ((Sp.index (-1048576) (-1048576)) != 0)) (by kernel_rfl) (fun w => by kernel_rfl) (by kernel_rfl)) (by kernel_rfl)) <|
      .cons (d := some 13) (by kernel_rfl) (does_move (x := .tmp 12) (v := .bool false) (by kernel_rfl) (by kernel_rfl)) <|
      .cons (d := some 14) (by kernel_rfl) (does_call0 (x := .func 17) (ars := #[.const (.int .i64 (-1048576)), .const (.int .i64 (-1048575))]) (ats := #[3, 3]) (g := 17) (vs := [.int .i64 (-1048576), .int .i64 (-1048575)]) (v := .agg #[.int .i64 (-1048576), .int .i64 (-1048575)]) (by kernel_rfl) (by kernel_rfl) (by kernel_rfl) (by kernel_rfl) (terrlaw1_at_ok (-1048576) (-1048575)) (by kernel_rfl) (by kernel_rfl)) <|
      .cons (d := some 15) (by kernel_rfl) (does_call0 (x := .func 26) (ars := #[.tmp 14]) (ats := #[24]) (g := 26) (vs := [.agg #[.int .i64 (-1048576), .int .i64 (-1048575)]]) (v := .int .i64 (Sp.index (-1048576) (-1048575))) (by kernel_rfl) (by kernel_rfl) (by kernel_rfl) (by kernel_rfl) (cindex_ok (-1048576) (-1048575)) (by kernel_rfl) (by kernel_rfl)) <|
      .cons (d := some 16) (by kernel_rfl) (does_call0 (x := .func 17) (ars := #[.const (.int .i64 (-1048575)), .const (.int .i64 (-1048576))]) (ats := #[3, 3]) (g := 17) (vs := [.int .i64 (-1048575), .int .i64 (-1048576)]) (v := .agg #[.int .i64 (-1048575), .int .i64 (-1048576)]) (by kernel_rfl) (by kernel_rfl) (by kernel_rfl) (by kernel_rfl) (terrlaw1_at_ok (-1048575) (-1048576)) (by kernel_rfl) (by kernel_rfl)) <|
      .cons (d := some 17) (by kernel_rfl) (does_call0 (x := .func 26) (ars := #[.tmp 16]) (ats := #[24]) (g := 26) (vs := [.agg #[.int .i64 (-1048575), .int .i64 (-1048576)]]) (v := .int .i64 (Sp.index (-1048575) (-1048576))) (by kernel_rfl) (by kernel_rfl) (by kernel_rfl) (by kernel_rfl) (cindex_ok (-1048575) (-1048576)) (by kernel_rfl) (by kernel_rfl)) <|
      .cons (d := some 18) (by kernel_rfl) (does_bool (b' := false) (does_pure (v := .bool ((Sp.index (-1048576) (-1048575)) == (Sp.index (-1048575) (-1048576)))) (by kernel_rfl) (fun w => by kernel_rfl) (by kernel_rfl)) (by kernel_rfl)) <|
      .cons (d := some 19) (by kernel_rfl) (does_pick (c := .tmp 13) (x := .const (.bool true)) (y := .tmp 18) (b := false) (v := .bool false) (by kernel_rfl) (by kernel_rfl) (by kernel_rfl)) <|
      .nil _ _) ?_
  refine aw_false (o := .tmp 19) (x := sub (bodyOf Try.f4) [true, false, true, false]) (y := sub (bodyOf Try.f4) [true, false, true, true]) (by kernel_rfl) (by kernel_rfl) ?_
  refine aw_skip (by kernel_rfl) ?_
  refine then_normal ?_
  refine aw_plain_seq (r := sub (bodyOf Try.f4) [true, true, false]) (y := sub (bodyOf Try.f4) [true, true, true]) (id := 3) (ops := regOps (sub (bodyOf Try.f4) [true, true, false])) (by kernel_rfl) (by kernel_rfl) (by kernel_rfl) (by kernel_rfl) (
      .cons (d := some 21) (by kernel_rfl) (does_move (x := .tmp 1) (v := .int .i64 n) (by kernel_rfl) (by kernel_rfl)) <|
      .cons (d := some 22) (by kernel_rfl) (does_call0 (x := .func 27) (ars := #[.tmp 21]) (ats := #[3]) (g := 27) (vs := [.int .i64 n]) (v := .tuple #[.agg #[.int .i64 (Sp.ofx n), .int .i64 (Sp.ofy n)], .int .i64 (Sp.ofe n)]) (by kernel_rfl) (by kernel_rfl) (by kernel_rfl) (by kernel_rfl) (cof_ok n) (by kernel_rfl) (by kernel_rfl)) <|
      .cons (d := some 20) (by kernel_rfl) (does_move (x := .tmp 22) (v := .tuple #[.agg #[.int .i64 (Sp.ofx n), .int .i64 (Sp.ofy n)], .int .i64 (Sp.ofe n)]) (by kernel_rfl) (by kernel_rfl)) <|
      .cons (d := some 23) (by kernel_rfl) (does_extract (x := .tmp 20) (n := 0) (vs := #[.agg #[.int .i64 (Sp.ofx n), .int .i64 (Sp.ofy n)], .int .i64 (Sp.ofe n)]) (v := .agg #[.int .i64 (Sp.ofx n), .int .i64 (Sp.ofy n)]) (by kernel_rfl) (by kernel_rfl) (by kernel_rfl)) <|
      .cons (d := some 24) (by kernel_rfl) (does_extract (x := .tmp 20) (n := 1) (vs := #[.agg #[.int .i64 (Sp.ofx n), .int .i64 (Sp.ofy n)], .int .i64 (Sp.ofe n)]) (v := .int .i64 (Sp.ofe n)) (by kernel_rfl) (by kernel_rfl) (by kernel_rfl)) <|
      .cons (d := some 5) (by kernel_rfl) (does_alloc (t := 24) (k := 2) (v := .agg #[.int .i64 0, .int .i64 0]) (cells := [.int .i64 0, .int .i64 0]) (by kernel_rfl) (by kernel_rfl) (by kernel_rfl) (by kernel_rfl) (by kernel_rfl)) <|
      .cons (d := none) (by kernel_rfl) (does_store (t := 24) (x := .tmp 5) (y := .tmp 23) (k := 2) (off := 0) (b := ⟨[.int .i64 0, .int .i64 0], 24, true, 2⟩) (v := .agg #[.int .i64 (Sp.ofx n), .int .i64 (Sp.ofy n)]) (cells := [.int .i64 (Sp.ofx n), .int .i64 (Sp.ofy n)]) (by kernel_rfl) (by kernel_rfl) (by kernel_rfl) (by kernel_rfl) rfl (by kernel_rfl) (by kernel_rfl) (by kernel_rfl) (by kernel_rfl)) <|
      .cons (d := some 6) (by kernel_rfl) (does_assign (x := .tmp 24) (v := .int .i64 (Sp.ofe n)) (by kernel_rfl) (by kernel_rfl)) <|
      .nil _ _) ?_
  refine aw_seq (x := sub (bodyOf Try.f4) [true, true, true, false]) (y := sub (bodyOf Try.f4) [true, true, true, true]) (by kernel_rfl) ?_
  rcases Bool.eq_false_or_eq_true (decide (n < 0)) with h1 | h1
  · have h1p : ((n < 0)) := by first | (simpa using h1) | (have h1q := h1; simp at h1q; omega) | (have h1q := bx1 h1; simp at h1q; omega)
    refine aw_plain_seq (r := sub (bodyOf Try.f4) [true, true, true, false, false]) (y := sub (bodyOf Try.f4) [true, true, true, false, true]) (id := 4) (ops := regOps (sub (bodyOf Try.f4) [true, true, true, false, false])) (by kernel_rfl) (by kernel_rfl) (by kernel_rfl) (by kernel_rfl) (
        .cons (d := some 25) (by kernel_rfl) (does_move (x := .tmp 1) (v := .int .i64 n) (by kernel_rfl) (by kernel_rfl)) <|
        .cons (d := some 26) (by kernel_rfl) (does_bool (b' := true) (does_pure (v := .bool (decide (n < 0))) (by kernel_rfl) (fun w => by kernel_rfl) (by kernel_rfl)) (h1)) <|
        .cons (d := some 27) (by kernel_rfl) (does_move (x := .tmp 26) (v := .bool true) (by kernel_rfl) (by kernel_rfl)) <|
        .cons (d := some 28) (by kernel_rfl) (does_skipB (by kernel_rfl)) <|
        .cons (d := some 29) (by kernel_rfl) (does_skipB (by kernel_rfl)) <|
        .cons (d := some 30) (by kernel_rfl) (does_pick (c := .tmp 27) (x := .const (.bool true)) (y := .tmp 29) (b := true) (v := .bool true) (by kernel_rfl) (by kernel_rfl) (by kernel_rfl)) <|
        .nil _ _) ?_
    refine aw_true (o := .tmp 30) (x := sub (bodyOf Try.f4) [true, true, true, false, true, false]) (y := sub (bodyOf Try.f4) [true, true, true, false, true, true]) (by kernel_rfl) (by kernel_rfl) ?_
    refine aw_plain_seq (r := sub (bodyOf Try.f4) [true, true, true, false, true, false, false]) (y := sub (bodyOf Try.f4) [true, true, true, false, true, false, true]) (id := 5) (ops := regOps (sub (bodyOf Try.f4) [true, true, true, false, true, false, false])) (by kernel_rfl) (by kernel_rfl) (by kernel_rfl) (by kernel_rfl) (
        .cons (d := some 31) (by kernel_rfl) (does_load (t := 24) (x := .tmp 5) (k := 2) (off := 0) (b := ⟨[.int .i64 (Sp.ofx n), .int .i64 (Sp.ofy n)], 24, true, 2⟩) (v := .agg #[.int .i64 (Sp.ofx n), .int .i64 (Sp.ofy n)]) (by kernel_rfl) (by kernel_rfl) (by kernel_rfl) (by kernel_rfl)) <|
        .cons (d := some 32) (by kernel_rfl) (does_pure (v := .agg #[.int .i64 0, .int .i64 0]) (by kernel_rfl) (fun w => by kernel_rfl) (by kernel_rfl)) <|
        .cons (d := some 33) (by kernel_rfl) (does_bool (b' := false) (does_neq (t := 24) (t2 := 24) (x := .tmp 31) (y := .tmp 32) (xs := #[.int .i64 (Sp.ofx n), .int .i64 (Sp.ofy n)]) (ys := #[.int .i64 0, .int .i64 0]) (b := (((Sp.ofx n) == 0) && (((Sp.ofy n) == 0) && true))) (by kernel_rfl) (by kernel_rfl) (by kernel_rfl) (by kernel_rfl) (by kernel_rfl) (by kernel_rfl) (by kernel_rfl)) (by rw [(Sp.ofxy_nz (n := n) (by first | (rw [Sp.ofe_out (by omega)]; decide) | (simpa using ‹(Sp.ofe n != 0) = true›))).1, (Sp.ofxy_nz (n := n) (by first | (rw [Sp.ofe_out (by omega)]; decide) | (simpa using ‹(Sp.ofe n != 0) = true›))).2]; rfl)) <|
        .cons (d := some 34) (by kernel_rfl) (does_move (x := .tmp 33) (v := .bool false) (by kernel_rfl) (by kernel_rfl)) <|
        .cons (d := some 35) (by kernel_rfl) (does_move (x := .tmp 6) (v := .int .i64 (Sp.ofe n)) (by kernel_rfl) (by kernel_rfl)) <|
        .cons (d := some 36) (by kernel_rfl) (does_bool (b' := false) (does_pure (v := .bool ((Sp.ofe n) != 1)) (by kernel_rfl) (fun w => by kernel_rfl) (by kernel_rfl)) (by rw [Sp.ofe_out (by omega)]; rfl)) <|
        .cons (d := some 37) (by kernel_rfl) (does_pick (c := .tmp 34) (x := .const (.bool true)) (y := .tmp 36) (b := false) (v := .bool false) (by kernel_rfl) (by kernel_rfl) (by kernel_rfl)) <|
        .nil _ _) ?_
    refine aw_false (o := .tmp 37) (x := sub (bodyOf Try.f4) [true, true, true, false, true, false, true, false]) (y := sub (bodyOf Try.f4) [true, true, true, false, true, false, true, true]) (by kernel_rfl) (by kernel_rfl) ?_
    refine aw_skip (by kernel_rfl) ?_
    refine then_normal ?_
    refine aw_plain_seq (r := sub (bodyOf Try.f4) [true, true, true, true, false]) (y := sub (bodyOf Try.f4) [true, true, true, true, true]) (id := 9) (ops := regOps (sub (bodyOf Try.f4) [true, true, true, true, false])) (by kernel_rfl) (by kernel_rfl) (by kernel_rfl) (by kernel_rfl) (
        .cons (d := some 59) (by kernel_rfl) (does_load (t := 24) (x := .tmp 2) (k := 1) (off := 0) (b := ⟨[.int .i64 x, .int .i64 y], 24, true, 2⟩) (v := .agg #[.int .i64 x, .int .i64 y]) (by kernel_rfl) (by kernel_rfl) (by kernel_rfl) (by kernel_rfl)) <|
        .cons (d := some 60) (by kernel_rfl) (does_call0 (x := .func 28) (ars := #[.tmp 59]) (ats := #[24]) (g := 28) (vs := [.agg #[.int .i64 x, .int .i64 y]]) (v := .int .i64 (Sp.index x y)) (by kernel_rfl) (by kernel_rfl) (by kernel_rfl) (by kernel_rfl) (rcurve_ok x y) (by kernel_rfl) (by kernel_rfl)) <|
        .cons (d := some 7) (by kernel_rfl) (does_assign (x := .tmp 60) (v := .int .i64 (Sp.index x y)) (by kernel_rfl) (by kernel_rfl)) <|
        .nil _ _) ?_
    refine aw_plain_seq (r := sub (bodyOf Try.f4) [true, true, true, true, true, false]) (y := sub (bodyOf Try.f4) [true, true, true, true, true, true]) (id := 10) (ops := regOps (sub (bodyOf Try.f4) [true, true, true, true, true, false])) (by kernel_rfl) (by kernel_rfl) (by kernel_rfl) (by kernel_rfl) (
        .cons (d := some 62) (by kernel_rfl) (does_move (x := .tmp 7) (v := .int .i64 (Sp.index x y)) (by kernel_rfl) (by kernel_rfl)) <|
        .cons (d := some 63) (by kernel_rfl) (does_call0 (x := .func 27) (ars := #[.tmp 62]) (ats := #[3]) (g := 27) (vs := [.int .i64 (Sp.index x y)]) (v := .tuple #[.agg #[.int .i64 (Sp.ofx (Sp.index x y)), .int .i64 (Sp.ofy (Sp.index x y))], .int .i64 (Sp.ofe (Sp.index x y))]) (by kernel_rfl) (by kernel_rfl) (by kernel_rfl) (by kernel_rfl) (cof_ok (Sp.index x y)) (by kernel_rfl) (by kernel_rfl)) <|
        .cons (d := some 61) (by kernel_rfl) (does_move (x := .tmp 63) (v := .tuple #[.agg #[.int .i64 (Sp.ofx (Sp.index x y)), .int .i64 (Sp.ofy (Sp.index x y))], .int .i64 (Sp.ofe (Sp.index x y))]) (by kernel_rfl) (by kernel_rfl)) <|
        .cons (d := some 64) (by kernel_rfl) (does_extract (x := .tmp 61) (n := 0) (vs := #[.agg #[.int .i64 (Sp.ofx (Sp.index x y)), .int .i64 (Sp.ofy (Sp.index x y))], .int .i64 (Sp.ofe (Sp.index x y))]) (v := .agg #[.int .i64 (Sp.ofx (Sp.index x y)), .int .i64 (Sp.ofy (Sp.index x y))]) (by kernel_rfl) (by kernel_rfl) (by kernel_rfl)) <|
        .cons (d := some 65) (by kernel_rfl) (does_extract (x := .tmp 61) (n := 1) (vs := #[.agg #[.int .i64 (Sp.ofx (Sp.index x y)), .int .i64 (Sp.ofy (Sp.index x y))], .int .i64 (Sp.ofe (Sp.index x y))]) (v := .int .i64 (Sp.ofe (Sp.index x y))) (by kernel_rfl) (by kernel_rfl) (by kernel_rfl)) <|
        .cons (d := some 8) (by kernel_rfl) (does_alloc (t := 24) (k := 3) (v := .agg #[.int .i64 0, .int .i64 0]) (cells := [.int .i64 0, .int .i64 0]) (by kernel_rfl) (by kernel_rfl) (by kernel_rfl) (by kernel_rfl) (by kernel_rfl)) <|
        .cons (d := none) (by kernel_rfl) (does_store (t := 24) (x := .tmp 8) (y := .tmp 64) (k := 3) (off := 0) (b := ⟨[.int .i64 0, .int .i64 0], 24, true, 2⟩) (v := .agg #[.int .i64 (Sp.ofx (Sp.index x y)), .int .i64 (Sp.ofy (Sp.index x y))]) (cells := [.int .i64 (Sp.ofx (Sp.index x y)), .int .i64 (Sp.ofy (Sp.index x y))]) (by kernel_rfl) (by kernel_rfl) (by kernel_rfl) (by kernel_rfl) rfl (by kernel_rfl) (by kernel_rfl) (by kernel_rfl) (by kernel_rfl)) <|
        .cons (d := some 9) (by kernel_rfl) (does_assign (x := .tmp 65) (v := .int .i64 (Sp.ofe (Sp.index x y))) (by kernel_rfl) (by kernel_rfl)) <|
        .nil _ _) ?_
    refine aw_draws_seq (r := sub (bodyOf Try.f4) [true, true, true, true, true, true, false]) (y := sub (bodyOf Try.f4) [true, true, true, true, true, true, true]) (id := 11) (ops := regOps (sub (bodyOf Try.f4) [true, true, true, true, true, true, false])) [[], [0], [], [0, 1, 2], [0, 1, 2, 3], [0, 1, 2, 3, 4], [0, 1, 2, 3, 4, 5], [0, 1, 2, 3, 4, 5, 6], [0, 1, 2, 3, 4, 5, 6, 7], [0, 1, 2, 3, 4, 5, 6, 7, 8], [0, 1, 2, 3, 4, 5, 6, 7, 8], [0, 1, 2, 3, 4, 5, 6, 7, 8, 10], [0, 1, 2, 3, 4, 5, 6, 7, 8, 9, 10, 11], [0, 1, 2, 3, 4, 5, 6, 7, 8, 9, 10, 11, 12], [0, 1, 2, 3, 4, 5, 6, 7, 8, 9, 10, 11, 12, 13]] (by kernel_rfl) (by kernel_rfl) (by kernel_rfl) (by kernel_rfl) (by kernel_rfl) (by kernel_rfl) (
        .cons (d := some 66) (by kernel_rfl) (does_load (t := 24) (x := .tmp 2) (k := 1) (off := 0) (b := ⟨[.int .i64 x, .int .i64 y], 24, true, 2⟩) (v := .agg #[.int .i64 x, .int .i64 y]) (by kernel_rfl) (by kernel_rfl) (by kernel_rfl) (by kernel_rfl)) <|
        .cons (d := some 67) (by kernel_rfl) (does_call0 (x := .func 26) (ars := #[.tmp 66]) (ats := #[24]) (g := 26) (vs := [.agg #[.int .i64 x, .int .i64 y]]) (v := .int .i64 (Sp.index x y)) (by kernel_rfl) (by kernel_rfl) (by kernel_rfl) (by kernel_rfl) (cindex_ok x y) (by kernel_rfl) (by kernel_rfl)) <|
        .cons (d := some 68) (by kernel_rfl) (does_move (x := .tmp 7) (v := .int .i64 (Sp.index x y)) (by kernel_rfl) (by kernel_rfl)) <|
        .cons (d := some 69) (by kernel_rfl) (does_bool (b' := true) (does_pure (v := .bool ((Sp.index x y) == (Sp.index x y))) (by kernel_rfl) (fun w => by kernel_rfl) (by kernel_rfl)) (by simp)) <|
        .cons (d := some 70) (by kernel_rfl) (does_move (x := .tmp 69) (v := .bool true) (by kernel_rfl) (by kernel_rfl)) <|
        .cons (d := some 71) (by kernel_rfl) (does_move (x := .tmp 9) (v := .int .i64 (Sp.ofe (Sp.index x y))) (by kernel_rfl) (by kernel_rfl)) <|
        .cons (d := some 72) (by kernel_rfl) (does_bool (b' := true) (does_pure (v := .bool ((Sp.ofe (Sp.index x y)) == 0)) (by kernel_rfl) (fun w => by kernel_rfl) (by kernel_rfl)) (by rw [(Sp.of_index x y).1]; rfl)) <|
        .cons (d := some 73) (by kernel_rfl) (does_pick (c := .tmp 70) (x := .tmp 72) (y := .const (.bool false)) (b := true) (v := .bool true) (by kernel_rfl) (by kernel_rfl) (by kernel_rfl)) <|
        .cons (d := some 74) (by kernel_rfl) (does_move (x := .tmp 73) (v := .bool true) (by kernel_rfl) (by kernel_rfl)) <|
        .cons (d := some 75) (by kernel_rfl) (does_load (t := 24) (x := .tmp 8) (k := 3) (off := 0) (b := ⟨[.int .i64 (Sp.ofx (Sp.index x y)), .int .i64 (Sp.ofy (Sp.index x y))], 24, true, 2⟩) (v := .agg #[.int .i64 (Sp.ofx (Sp.index x y)), .int .i64 (Sp.ofy (Sp.index x y))]) (by kernel_rfl) (by kernel_rfl) (by kernel_rfl) (by kernel_rfl)) <|
        .cons (d := some 76) (by kernel_rfl) (does_load (t := 24) (x := .tmp 2) (k := 1) (off := 0) (b := ⟨[.int .i64 x, .int .i64 y], 24, true, 2⟩) (v := .agg #[.int .i64 x, .int .i64 y]) (by kernel_rfl) (by kernel_rfl) (by kernel_rfl) (by kernel_rfl)) <|
        .cons (d := some 77) (by kernel_rfl) (does_call0 (x := .func 16) (ars := #[.tmp 76]) (ats := #[24]) (g := 16) (vs := [.agg #[.int .i64 x, .int .i64 y]]) (v := .agg #[.int .i64 (Sp.lim 1048576 x), .int .i64 (Sp.lim 1048576 y)]) (by kernel_rfl) (by kernel_rfl) (by kernel_rfl) (by kernel_rfl) (rvalid_ok x y) (by kernel_rfl) (by kernel_rfl)) <|
        .cons (d := some 78) (by kernel_rfl) (does_bool (b' := true) (does_eql (t := 24) (t2 := 24) (x := .tmp 75) (y := .tmp 77) (xs := #[.int .i64 (Sp.ofx (Sp.index x y)), .int .i64 (Sp.ofy (Sp.index x y))]) (ys := #[.int .i64 (Sp.lim 1048576 x), .int .i64 (Sp.lim 1048576 y)]) (b := (((Sp.ofx (Sp.index x y)) == (Sp.lim 1048576 x)) && (((Sp.ofy (Sp.index x y)) == (Sp.lim 1048576 y)) && true))) (by kernel_rfl) (by kernel_rfl) (by kernel_rfl) (by kernel_rfl) (by kernel_rfl) (by kernel_rfl) (by kernel_rfl)) (by rw [(Sp.of_index x y).2.1, (Sp.of_index x y).2.2]; simp)) <|
        .cons (d := some 79) (by kernel_rfl) (does_pick (c := .tmp 74) (x := .tmp 78) (y := .const (.bool false)) (b := true) (v := .bool true) (by kernel_rfl) (by kernel_rfl) (by kernel_rfl)) <|
        .cons (d := some 4) (by kernel_rfl) (does_assign (x := .tmp 79) (v := .bool true) (by kernel_rfl) (by kernel_rfl)) <|
        .nil _ _) ?_
    refine aw_ret (by kernel_rfl) ?_
    exact end_ret (vs := [.bool true]) (by kernel_rfl) (by kernel_rfl) trivial
  · have h1p : ¬ ((n < 0)) := by first | (simpa using h1) | (have h1q := h1; simp at h1q; omega) | (have h1q := bx2 h1; simp at h1q; omega)
    refine aw_plain_seq (r := sub (bodyOf Try.f4) [true, true, true, false, false]) (y := sub (bodyOf Try.f4) [true, true, true, false, true]) (id := 4) (ops := regOps (sub (bodyOf Try.f4) [true, true, true, false, false])) (by kernel_rfl) (by kernel_rfl) (by kernel_rfl) (by kernel_rfl) (
        .cons (d := some 25) (by kernel_rfl) (does_move (x := .tmp 1) (v := .int .i64 n) (by kernel_rfl) (by kernel_rfl)) <|
        .cons (d := some 26) (by kernel_rfl) (does_bool (b' := false) (does_pure (v := .bool (decide (n < 0))) (by kernel_rfl) (fun w => by kernel_rfl) (by kernel_rfl)) (h1)) <|
        .cons (d := some 27) (by kernel_rfl) (does_move (x := .tmp 26) (v := .bool false) (by kernel_rfl) (by kernel_rfl)) <|
        .cons (d := some 28) (by kernel_rfl) (does_move (x := .tmp 1) (v := .int .i64 n) (by kernel_rfl) (by kernel_rfl)) <|
        .cons (d := some 29) (by kernel_rfl) (does_pure (v := .bool (decide (n ≥ 17592186044416))) (by kernel_rfl) (fun w => by kernel_rfl) (by kernel_rfl)) <|
        .cons (d := some 30) (by kernel_rfl) (does_pick (c := .tmp 27) (x := .const (.bool true)) (y := .tmp 29) (b := false) (v := .bool (decide (n ≥ 17592186044416))) (by kernel_rfl) (by kernel_rfl) (by kernel_rfl)) <|
        .nil _ _) ?_
    refine aw_cond (o := .tmp 30) (b := decide (n ≥ 17592186044416)) (x := sub (bodyOf Try.f4) [true, true, true, false, true, false]) (y := sub (bodyOf Try.f4) [true, true, true, false, true, true]) (by kernel_rfl) (by kernel_rfl) (fun h2 => ?_) (fun h2 => ?_)
    · have h2p : ((n ≥ 17592186044416)) := by first | (simpa using h2) | (have h2q := h2; simp at h2q; omega) | (have h2q := bx1 h2; simp at h2q; omega)
      refine aw_plain_seq (r := sub (bodyOf Try.f4) [true, true, true, false, true, false, false]) (y := sub (bodyOf Try.f4) [true, true, true, false, true, false, true]) (id := 5) (ops := regOps (sub (bodyOf Try.f4) [true, true, true, false, true, false, false])) (by kernel_rfl) (by kernel_rfl) (by kernel_rfl) (by kernel_rfl) (
          .cons (d := some 31) (by kernel_rfl) (does_load (t := 24) (x := .tmp 5) (k := 2) (off := 0) (b := ⟨[.int .i64 (Sp.ofx n), .int .i64 (Sp.ofy n)], 24, true, 2⟩) (v := .agg #[.int .i64 (Sp.ofx n), .int .i64 (Sp.ofy n)]) (by kernel_rfl) (by kernel_rfl) (by kernel_rfl) (by kernel_rfl)) <|
          .cons (d := some 32) (by kernel_rfl) (does_pure (v := .agg #[.int .i64 0, .int .i64 0]) (by kernel_rfl) (fun w => by kernel_rfl) (by kernel_rfl)) <|
          .cons (d := some 33) (by kernel_rfl) (does_bool (b' := false) (does_neq (t := 24) (t2 := 24) (x := .tmp 31) (y := .tmp 32) (xs := #[.int .i64 (Sp.ofx n), .int .i64 (Sp.ofy n)]) (ys := #[.int .i64 0, .int .i64 0]) (b := (((Sp.ofx n) == 0) && (((Sp.ofy n) == 0) && true))) (by kernel_rfl) (by kernel_rfl) (by kernel_rfl) (by kernel_rfl) (by kernel_rfl) (by kernel_rfl) (by kernel_rfl)) (by rw [(Sp.ofxy_nz (n := n) (by first | (rw [Sp.ofe_out (by omega)]; decide) | (simpa using ‹(Sp.ofe n != 0) = true›))).1, (Sp.ofxy_nz (n := n) (by first | (rw [Sp.ofe_out (by omega)]; decide) | (simpa using ‹(Sp.ofe n != 0) = true›))).2]; rfl)) <|
          .cons (d := some 34) (by kernel_rfl) (does_move (x := .tmp 33) (v := .bool false) (by kernel_rfl) (by kernel_rfl)) <|
          .cons (d := some 35) (by kernel_rfl) (does_move (x := .tmp 6) (v := .int .i64 (Sp.ofe n)) (by kernel_rfl) (by kernel_rfl)) <|
          .cons (d := some 36) (by kernel_rfl) (does_bool (b' := false) (does_pure (v := .bool ((Sp.ofe n) != 1)) (by kernel_rfl) (fun w => by kernel_rfl) (by kernel_rfl)) (by rw [Sp.ofe_out (by omega)]; rfl)) <|
          .cons (d := some 37) (by kernel_rfl) (does_pick (c := .tmp 34) (x := .const (.bool true)) (y := .tmp 36) (b := false) (v := .bool false) (by kernel_rfl) (by kernel_rfl) (by kernel_rfl)) <|
          .nil _ _) ?_
      refine aw_false (o := .tmp 37) (x := sub (bodyOf Try.f4) [true, true, true, false, true, false, true, false]) (y := sub (bodyOf Try.f4) [true, true, true, false, true, false, true, true]) (by kernel_rfl) (by kernel_rfl) ?_
      refine aw_skip (by kernel_rfl) ?_
      refine then_normal ?_
      refine aw_plain_seq (r := sub (bodyOf Try.f4) [true, true, true, true, false]) (y := sub (bodyOf Try.f4) [true, true, true, true, true]) (id := 9) (ops := regOps (sub (bodyOf Try.f4) [true, true, true, true, false])) (by kernel_rfl) (by kernel_rfl) (by kernel_rfl) (by kernel_rfl) (
          .cons (d := some 59) (by kernel_rfl) (does_load (t := 24) (x := .tmp 2) (k := 1) (off := 0) (b := ⟨[.int .i64 x, .int .i64 y], 24, true, 2⟩) (v := .agg #[.int .i64 x, .int .i64 y]) (by kernel_rfl) (by kernel_rfl) (by kernel_rfl) (by kernel_rfl)) <|
          .cons (d := some 60) (by kernel_rfl) (does_call0 (x := .func 28) (ars := #[.tmp 59]) (ats := #[24]) (g := 28) (vs := [.agg #[.int .i64 x, .int .i64 y]]) (v := .int .i64 (Sp.index x y)) (by kernel_rfl) (by kernel_rfl) (by kernel_rfl) (by kernel_rfl) (rcurve_ok x y) (by kernel_rfl) (by kernel_rfl)) <|
          .cons (d := some 7) (by kernel_rfl) (does_assign (x := .tmp 60) (v := .int .i64 (Sp.index x y)) (by kernel_rfl) (by kernel_rfl)) <|
          .nil _ _) ?_
      refine aw_plain_seq (r := sub (bodyOf Try.f4) [true, true, true, true, true, false]) (y := sub (bodyOf Try.f4) [true, true, true, true, true, true]) (id := 10) (ops := regOps (sub (bodyOf Try.f4) [true, true, true, true, true, false])) (by kernel_rfl) (by kernel_rfl) (by kernel_rfl) (by kernel_rfl) (
          .cons (d := some 62) (by kernel_rfl) (does_move (x := .tmp 7) (v := .int .i64 (Sp.index x y)) (by kernel_rfl) (by kernel_rfl)) <|
          .cons (d := some 63) (by kernel_rfl) (does_call0 (x := .func 27) (ars := #[.tmp 62]) (ats := #[3]) (g := 27) (vs := [.int .i64 (Sp.index x y)]) (v := .tuple #[.agg #[.int .i64 (Sp.ofx (Sp.index x y)), .int .i64 (Sp.ofy (Sp.index x y))], .int .i64 (Sp.ofe (Sp.index x y))]) (by kernel_rfl) (by kernel_rfl) (by kernel_rfl) (by kernel_rfl) (cof_ok (Sp.index x y)) (by kernel_rfl) (by kernel_rfl)) <|
          .cons (d := some 61) (by kernel_rfl) (does_move (x := .tmp 63) (v := .tuple #[.agg #[.int .i64 (Sp.ofx (Sp.index x y)), .int .i64 (Sp.ofy (Sp.index x y))], .int .i64 (Sp.ofe (Sp.index x y))]) (by kernel_rfl) (by kernel_rfl)) <|
          .cons (d := some 64) (by kernel_rfl) (does_extract (x := .tmp 61) (n := 0) (vs := #[.agg #[.int .i64 (Sp.ofx (Sp.index x y)), .int .i64 (Sp.ofy (Sp.index x y))], .int .i64 (Sp.ofe (Sp.index x y))]) (v := .agg #[.int .i64 (Sp.ofx (Sp.index x y)), .int .i64 (Sp.ofy (Sp.index x y))]) (by kernel_rfl) (by kernel_rfl) (by kernel_rfl)) <|
          .cons (d := some 65) (by kernel_rfl) (does_extract (x := .tmp 61) (n := 1) (vs := #[.agg #[.int .i64 (Sp.ofx (Sp.index x y)), .int .i64 (Sp.ofy (Sp.index x y))], .int .i64 (Sp.ofe (Sp.index x y))]) (v := .int .i64 (Sp.ofe (Sp.index x y))) (by kernel_rfl) (by kernel_rfl) (by kernel_rfl)) <|
          .cons (d := some 8) (by kernel_rfl) (does_alloc (t := 24) (k := 3) (v := .agg #[.int .i64 0, .int .i64 0]) (cells := [.int .i64 0, .int .i64 0]) (by kernel_rfl) (by kernel_rfl) (by kernel_rfl) (by kernel_rfl) (by kernel_rfl)) <|
          .cons (d := none) (by kernel_rfl) (does_store (t := 24) (x := .tmp 8) (y := .tmp 64) (k := 3) (off := 0) (b := ⟨[.int .i64 0, .int .i64 0], 24, true, 2⟩) (v := .agg #[.int .i64 (Sp.ofx (Sp.index x y)), .int .i64 (Sp.ofy (Sp.index x y))]) (cells := [.int .i64 (Sp.ofx (Sp.index x y)), .int .i64 (Sp.ofy (Sp.index x y))]) (by kernel_rfl) (by kernel_rfl) (by kernel_rfl) (by kernel_rfl) rfl (by kernel_rfl) (by kernel_rfl) (by kernel_rfl) (by kernel_rfl)) <|
          .cons (d := some 9) (by kernel_rfl) (does_assign (x := .tmp 65) (v := .int .i64 (Sp.ofe (Sp.index x y))) (by kernel_rfl) (by kernel_rfl)) <|
          .nil _ _) ?_
      refine aw_draws_seq (r := sub (bodyOf Try.f4) [true, true, true, true, true, true, false]) (y := sub (bodyOf Try.f4) [true, true, true, true, true, true, true]) (id := 11) (ops := regOps (sub (bodyOf Try.f4) [true, true, true, true, true, true, false])) [[], [0], [], [0, 1, 2], [0, 1, 2, 3], [0, 1, 2, 3, 4], [0, 1, 2, 3, 4, 5], [0, 1, 2, 3, 4, 5, 6], [0, 1, 2, 3, 4, 5, 6, 7], [0, 1, 2, 3, 4, 5, 6, 7, 8], [0, 1, 2, 3, 4, 5, 6, 7, 8], [0, 1, 2, 3, 4, 5, 6, 7, 8, 10], [0, 1, 2, 3, 4, 5, 6, 7, 8, 9, 10, 11], [0, 1, 2, 3, 4, 5, 6, 7, 8, 9, 10, 11, 12], [0, 1, 2, 3, 4, 5, 6, 7, 8, 9, 10, 11, 12, 13]] (by kernel_rfl) (by kernel_rfl) (by kernel_rfl) (by kernel_rfl) (by kernel_rfl) (by kernel_rfl) (
          .cons (d := some 66) (by kernel_rfl) (does_load (t := 24) (x := .tmp 2) (k := 1) (off := 0) (b := ⟨[.int .i64 x, .int .i64 y], 24, true, 2⟩) (v := .agg #[.int .i64 x, .int .i64 y]) (by kernel_rfl) (by kernel_rfl) (by kernel_rfl) (by kernel_rfl)) <|
          .cons (d := some 67) (by kernel_rfl) (does_call0 (x := .func 26) (ars := #[.tmp 66]) (ats := #[24]) (g := 26) (vs := [.agg #[.int .i64 x, .int .i64 y]]) (v := .int .i64 (Sp.index x y)) (by kernel_rfl) (by kernel_rfl) (by kernel_rfl) (by kernel_rfl) (cindex_ok x y) (by kernel_rfl) (by kernel_rfl)) <|
          .cons (d := some 68) (by kernel_rfl) (does_move (x := .tmp 7) (v := .int .i64 (Sp.index x y)) (by kernel_rfl) (by kernel_rfl)) <|
          .cons (d := some 69) (by kernel_rfl) (does_bool (b' := true) (does_pure (v := .bool ((Sp.index x y) == (Sp.index x y))) (by kernel_rfl) (fun w => by kernel_rfl) (by kernel_rfl)) (by simp)) <|
          .cons (d := some 70) (by kernel_rfl) (does_move (x := .tmp 69) (v := .bool true) (by kernel_rfl) (by kernel_rfl)) <|
          .cons (d := some 71) (by kernel_rfl) (does_move (x := .tmp 9) (v := .int .i64 (Sp.ofe (Sp.index x y))) (by kernel_rfl) (by kernel_rfl)) <|
          .cons (d := some 72) (by kernel_rfl) (does_bool (b' := true) (does_pure (v := .bool ((Sp.ofe (Sp.index x y)) == 0)) (by kernel_rfl) (fun w => by kernel_rfl) (by kernel_rfl)) (by rw [(Sp.of_index x y).1]; rfl)) <|
          .cons (d := some 73) (by kernel_rfl) (does_pick (c := .tmp 70) (x := .tmp 72) (y := .const (.bool false)) (b := true) (v := .bool true) (by kernel_rfl) (by kernel_rfl) (by kernel_rfl)) <|
          .cons (d := some 74) (by kernel_rfl) (does_move (x := .tmp 73) (v := .bool true) (by kernel_rfl) (by kernel_rfl)) <|
          .cons (d := some 75) (by kernel_rfl) (does_load (t := 24) (x := .tmp 8) (k := 3) (off := 0) (b := ⟨[.int .i64 (Sp.ofx (Sp.index x y)), .int .i64 (Sp.ofy (Sp.index x y))], 24, true, 2⟩) (v := .agg #[.int .i64 (Sp.ofx (Sp.index x y)), .int .i64 (Sp.ofy (Sp.index x y))]) (by kernel_rfl) (by kernel_rfl) (by kernel_rfl) (by kernel_rfl)) <|
          .cons (d := some 76) (by kernel_rfl) (does_load (t := 24) (x := .tmp 2) (k := 1) (off := 0) (b := ⟨[.int .i64 x, .int .i64 y], 24, true, 2⟩) (v := .agg #[.int .i64 x, .int .i64 y]) (by kernel_rfl) (by kernel_rfl) (by kernel_rfl) (by kernel_rfl)) <|
          .cons (d := some 77) (by kernel_rfl) (does_call0 (x := .func 16) (ars := #[.tmp 76]) (ats := #[24]) (g := 16) (vs := [.agg #[.int .i64 x, .int .i64 y]]) (v := .agg #[.int .i64 (Sp.lim 1048576 x), .int .i64 (Sp.lim 1048576 y)]) (by kernel_rfl) (by kernel_rfl) (by kernel_rfl) (by kernel_rfl) (rvalid_ok x y) (by kernel_rfl) (by kernel_rfl)) <|
          .cons (d := some 78) (by kernel_rfl) (does_bool (b' := true) (does_eql (t := 24) (t2 := 24) (x := .tmp 75) (y := .tmp 77) (xs := #[.int .i64 (Sp.ofx (Sp.index x y)), .int .i64 (Sp.ofy (Sp.index x y))]) (ys := #[.int .i64 (Sp.lim 1048576 x), .int .i64 (Sp.lim 1048576 y)]) (b := (((Sp.ofx (Sp.index x y)) == (Sp.lim 1048576 x)) && (((Sp.ofy (Sp.index x y)) == (Sp.lim 1048576 y)) && true))) (by kernel_rfl) (by kernel_rfl) (by kernel_rfl) (by kernel_rfl) (by kernel_rfl) (by kernel_rfl) (by kernel_rfl)) (by rw [(Sp.of_index x y).2.1, (Sp.of_index x y).2.2]; simp)) <|
          .cons (d := some 79) (by kernel_rfl) (does_pick (c := .tmp 74) (x := .tmp 78) (y := .const (.bool false)) (b := true) (v := .bool true) (by kernel_rfl) (by kernel_rfl) (by kernel_rfl)) <|
          .cons (d := some 4) (by kernel_rfl) (does_assign (x := .tmp 79) (v := .bool true) (by kernel_rfl) (by kernel_rfl)) <|
          .nil _ _) ?_
      refine aw_ret (by kernel_rfl) ?_
      exact end_ret (vs := [.bool true]) (by kernel_rfl) (by kernel_rfl) trivial
    · have h2p : ¬ ((n ≥ 17592186044416)) := by first | (simpa using h2) | (have h2q := h2; simp at h2q; omega) | (have h2q := bx2 h2; simp at h2q; omega)
      rcases Bool.eq_false_or_eq_true ((Sp.ofe n) != 0) with h3 | h3
      · have h3p : (¬ ((Sp.ofe n) = 0)) := by first | (simpa using h3) | (have h3q := h3; simp at h3q; omega) | (have h3q := bx1 h3; simp at h3q; omega)
        rcases Bool.eq_false_or_eq_true ((Sp.ofe n) == 0) with h4 | h4
        · have h4p : (((Sp.ofe n) = 0)) := by first | (simpa using h4) | (have h4q := h4; simp at h4q; omega) | (have h4q := bx1 h4; simp at h4q; omega)
          refine aw_plain_seq (r := sub (bodyOf Try.f4) [true, true, true, false, true, true, false]) (y := sub (bodyOf Try.f4) [true, true, true, false, true, true, true]) (id := 7) (ops := regOps (sub (bodyOf Try.f4) [true, true, true, false, true, true, false])) (by kernel_rfl) (by kernel_rfl) (by kernel_rfl) (by kernel_rfl) (
              .cons (d := some 38) (by kernel_rfl) (does_move (x := .tmp 6) (v := .int .i64 (Sp.ofe n)) (by kernel_rfl) (by kernel_rfl)) <|
              .cons (d := some 39) (by kernel_rfl) (does_bool (b' := true) (does_pure (v := .bool ((Sp.ofe n) != 0)) (by kernel_rfl) (fun w => by kernel_rfl) (by kernel_rfl)) (h3)) <|
              .cons (d := some 40) (by kernel_rfl) (does_move (x := .tmp 39) (v := .bool true) (by kernel_rfl) (by kernel_rfl)) <|
              .cons (d := some 41) (by kernel_rfl) (does_move (x := .tmp 6) (v := .int .i64 (Sp.ofe n)) (by kernel_rfl) (by kernel_rfl)) <|
              .cons (d := some 42) (by kernel_rfl) (does_bool (b' := false) (does_pure (v := .bool ((Sp.ofe n) != 17)) (by kernel_rfl) (fun w => by kernel_rfl) (by kernel_rfl)) (by have q := Sp.ofe_cases (n := n) (by omega); have q2 : ¬ Sp.ofe n = 0 := (by simpa using ‹(Sp.ofe n != 0) = true›); rw [q.resolve_left q2]; rfl)) <|
              .cons (d := some 43) (by kernel_rfl) (does_move (x := .tmp 42) (v := .bool false) (by kernel_rfl) (by kernel_rfl)) <|
              .cons (d := some 44) (by kernel_rfl) (does_load (t := 24) (x := .tmp 5) (k := 2) (off := 0) (b := ⟨[.int .i64 (Sp.ofx n), .int .i64 (Sp.ofy n)], 24, true, 2⟩) (v := .agg #[.int .i64 (Sp.ofx n), .int .i64 (Sp.ofy n)]) (by kernel_rfl) (by kernel_rfl) (by kernel_rfl) (by kernel_rfl)) <|
              .cons (d := some 45) (by kernel_rfl) (does_pure (v := .agg #[.int .i64 0, .int .i64 0]) (by kernel_rfl) (fun w => by kernel_rfl) (by kernel_rfl)) <|
              .cons (d := some 46) (by kernel_rfl) (does_bool (b' := false) (does_neq (t := 24) (t2 := 24) (x := .tmp 44) (y := .tmp 45) (xs := #[.int .i64 (Sp.ofx n), .int .i64 (Sp.ofy n)]) (ys := #[.int .i64 0, .int .i64 0]) (b := (((Sp.ofx n) == 0) && (((Sp.ofy n) == 0) && true))) (by kernel_rfl) (by kernel_rfl) (by kernel_rfl) (by kernel_rfl) (by kernel_rfl) (by kernel_rfl) (by kernel_rfl)) (by rw [(Sp.ofxy_nz (n := n) (by first | (rw [Sp.ofe_out (by omega)]; decide) | (simpa using ‹(Sp.ofe n != 0) = true›))).1, (Sp.ofxy_nz (n := n) (by first | (rw [Sp.ofe_out (by omega)]; decide) | (simpa using ‹(Sp.ofe n != 0) = true›))).2]; rfl)) <|
              .cons (d := some 47) (by kernel_rfl) (does_pick (c := .tmp 43) (x := .const (.bool true)) (y := .tmp 46) (b := false) (v := .bool false) (by kernel_rfl) (by kernel_rfl) (by kernel_rfl)) <|
              .cons (d := some 48) (by kernel_rfl) (does_pick (c := .tmp 40) (x := .tmp 47) (y := .const (.bool false)) (b := true) (v := .bool false) (by kernel_rfl) (by kernel_rfl) (by kernel_rfl)) <|
              .cons (d := some 49) (by kernel_rfl) (does_move (x := .tmp 48) (v := .bool false) (by kernel_rfl) (by kernel_rfl)) <|
              .cons (d := some 50) (by kernel_rfl) (does_move (x := .tmp 6) (v := .int .i64 (Sp.ofe n)) (by kernel_rfl) (by kernel_rfl)) <|
              .cons (d := some 51) (by kernel_rfl) (does_bool (b' := true) (does_pure (v := .bool ((Sp.ofe n) == 0)) (by kernel_rfl) (fun w => by kernel_rfl) (by kernel_rfl)) (h4)) <|
              .cons (d := some 52) (by kernel_rfl) (does_move (x := .tmp 51) (v := .bool true) (by kernel_rfl) (by kernel_rfl)) <|
              .cons (d := some 53) (by kernel_rfl) (does_load (t := 24) (x := .tmp 5) (k := 2) (off := 0) (b := ⟨[.int .i64 (Sp.ofx n), .int .i64 (Sp.ofy n)], 24, true, 2⟩) (v := .agg #[.int .i64 (Sp.ofx n), .int .i64 (Sp.ofy n)]) (by kernel_rfl) (by kernel_rfl) (by kernel_rfl) (by kernel_rfl)) <|
              .cons (d := some 54) (by kernel_rfl) (does_call0 (x := .func 28) (ars := #[.tmp 53]) (ats := #[24]) (g := 28) (vs := [.agg #[.int .i64 (Sp.ofx n), .int .i64 (Sp.ofy n)]]) (v := .int .i64 (Sp.index (Sp.ofx n) (Sp.ofy n))) (by kernel_rfl) (by kernel_rfl) (by kernel_rfl) (by kernel_rfl) (rcurve_ok (Sp.ofx n) (Sp.ofy n)) (by kernel_rfl) (by kernel_rfl)) <|
              .cons (d := some 55) (by kernel_rfl) (does_move (x := .tmp 1) (v := .int .i64 n) (by kernel_rfl) (by kernel_rfl)) <|
              .cons (d := some 56) (by kernel_rfl) (does_bool (b' := false) (does_pure (v := .bool ((Sp.index (Sp.ofx n) (Sp.ofy n)) != n)) (by kernel_rfl) (fun w => by kernel_rfl) (by kernel_rfl)) (by rw [Sp.index_of (by simpa using ‹(Sp.ofe n == 0) = true›)]; simp)) <|
              .cons (d := some 57) (by kernel_rfl) (does_pick (c := .tmp 52) (x := .tmp 56) (y := .const (.bool false)) (b := true) (v := .bool false) (by kernel_rfl) (by kernel_rfl) (by kernel_rfl)) <|
              .cons (d := some 58) (by kernel_rfl) (does_pick (c := .tmp 49) (x := .const (.bool true)) (y := .tmp 57) (b := false) (v := .bool false) (by kernel_rfl) (by kernel_rfl) (by kernel_rfl)) <|
              .nil _ _) ?_
          refine aw_false (o := .tmp 58) (x := sub (bodyOf Try.f4) [true, true, true, false, true, true, true, false]) (y := sub (bodyOf Try.f4) [true, true, true, false, true, true, true, true]) (by kernel_rfl) (by kernel_rfl) ?_
          refine aw_skip (by kernel_rfl) ?_
          refine then_normal ?_
          refine aw_plain_seq (r := sub (bodyOf Try.f4) [true, true, true, true, false]) (y := sub (bodyOf Try.f4) [true, true, true, true, true]) (id := 9) (ops := regOps (sub (bodyOf Try.f4) [true, true, true, true, false])) (by kernel_rfl) (by kernel_rfl) (by kernel_rfl) (by kernel_rfl) (
              .cons (d := some 59) (by kernel_rfl) (does_load (t := 24) (x := .tmp 2) (k := 1) (off := 0) (b := ⟨[.int .i64 x, .int .i64 y], 24, true, 2⟩) (v := .agg #[.int .i64 x, .int .i64 y]) (by kernel_rfl) (by kernel_rfl) (by kernel_rfl) (by kernel_rfl)) <|
              .cons (d := some 60) (by kernel_rfl) (does_call0 (x := .func 28) (ars := #[.tmp 59]) (ats := #[24]) (g := 28) (vs := [.agg #[.int .i64 x, .int .i64 y]]) (v := .int .i64 (Sp.index x y)) (by kernel_rfl) (by kernel_rfl) (by kernel_rfl) (by kernel_rfl) (rcurve_ok x y) (by kernel_rfl) (by kernel_rfl)) <|
              .cons (d := some 7) (by kernel_rfl) (does_assign (x := .tmp 60) (v := .int .i64 (Sp.index x y)) (by kernel_rfl) (by kernel_rfl)) <|
              .nil _ _) ?_
          refine aw_plain_seq (r := sub (bodyOf Try.f4) [true, true, true, true, true, false]) (y := sub (bodyOf Try.f4) [true, true, true, true, true, true]) (id := 10) (ops := regOps (sub (bodyOf Try.f4) [true, true, true, true, true, false])) (by kernel_rfl) (by kernel_rfl) (by kernel_rfl) (by kernel_rfl) (
              .cons (d := some 62) (by kernel_rfl) (does_move (x := .tmp 7) (v := .int .i64 (Sp.index x y)) (by kernel_rfl) (by kernel_rfl)) <|
              .cons (d := some 63) (by kernel_rfl) (does_call0 (x := .func 27) (ars := #[.tmp 62]) (ats := #[3]) (g := 27) (vs := [.int .i64 (Sp.index x y)]) (v := .tuple #[.agg #[.int .i64 (Sp.ofx (Sp.index x y)), .int .i64 (Sp.ofy (Sp.index x y))], .int .i64 (Sp.ofe (Sp.index x y))]) (by kernel_rfl) (by kernel_rfl) (by kernel_rfl) (by kernel_rfl) (cof_ok (Sp.index x y)) (by kernel_rfl) (by kernel_rfl)) <|
              .cons (d := some 61) (by kernel_rfl) (does_move (x := .tmp 63) (v := .tuple #[.agg #[.int .i64 (Sp.ofx (Sp.index x y)), .int .i64 (Sp.ofy (Sp.index x y))], .int .i64 (Sp.ofe (Sp.index x y))]) (by kernel_rfl) (by kernel_rfl)) <|
              .cons (d := some 64) (by kernel_rfl) (does_extract (x := .tmp 61) (n := 0) (vs := #[.agg #[.int .i64 (Sp.ofx (Sp.index x y)), .int .i64 (Sp.ofy (Sp.index x y))], .int .i64 (Sp.ofe (Sp.index x y))]) (v := .agg #[.int .i64 (Sp.ofx (Sp.index x y)), .int .i64 (Sp.ofy (Sp.index x y))]) (by kernel_rfl) (by kernel_rfl) (by kernel_rfl)) <|
              .cons (d := some 65) (by kernel_rfl) (does_extract (x := .tmp 61) (n := 1) (vs := #[.agg #[.int .i64 (Sp.ofx (Sp.index x y)), .int .i64 (Sp.ofy (Sp.index x y))], .int .i64 (Sp.ofe (Sp.index x y))]) (v := .int .i64 (Sp.ofe (Sp.index x y))) (by kernel_rfl) (by kernel_rfl) (by kernel_rfl)) <|
              .cons (d := some 8) (by kernel_rfl) (does_alloc (t := 24) (k := 3) (v := .agg #[.int .i64 0, .int .i64 0]) (cells := [.int .i64 0, .int .i64 0]) (by kernel_rfl) (by kernel_rfl) (by kernel_rfl) (by kernel_rfl) (by kernel_rfl)) <|
              .cons (d := none) (by kernel_rfl) (does_store (t := 24) (x := .tmp 8) (y := .tmp 64) (k := 3) (off := 0) (b := ⟨[.int .i64 0, .int .i64 0], 24, true, 2⟩) (v := .agg #[.int .i64 (Sp.ofx (Sp.index x y)), .int .i64 (Sp.ofy (Sp.index x y))]) (cells := [.int .i64 (Sp.ofx (Sp.index x y)), .int .i64 (Sp.ofy (Sp.index x y))]) (by kernel_rfl) (by kernel_rfl) (by kernel_rfl) (by kernel_rfl) rfl (by kernel_rfl) (by kernel_rfl) (by kernel_rfl) (by kernel_rfl)) <|
              .cons (d := some 9) (by kernel_rfl) (does_assign (x := .tmp 65) (v := .int .i64 (Sp.ofe (Sp.index x y))) (by kernel_rfl) (by kernel_rfl)) <|
              .nil _ _) ?_
          refine aw_draws_seq (r := sub (bodyOf Try.f4) [true, true, true, true, true, true, false]) (y := sub (bodyOf Try.f4) [true, true, true, true, true, true, true]) (id := 11) (ops := regOps (sub (bodyOf Try.f4) [true, true, true, true, true, true, false])) [[], [0], [], [0, 1, 2], [0, 1, 2, 3], [0, 1, 2, 3, 4], [0, 1, 2, 3, 4, 5], [0, 1, 2, 3, 4, 5, 6], [0, 1, 2, 3, 4, 5, 6, 7], [0, 1, 2, 3, 4, 5, 6, 7, 8], [0, 1, 2, 3, 4, 5, 6, 7, 8], [0, 1, 2, 3, 4, 5, 6, 7, 8, 10], [0, 1, 2, 3, 4, 5, 6, 7, 8, 9, 10, 11], [0, 1, 2, 3, 4, 5, 6, 7, 8, 9, 10, 11, 12], [0, 1, 2, 3, 4, 5, 6, 7, 8, 9, 10, 11, 12, 13]] (by kernel_rfl) (by kernel_rfl) (by kernel_rfl) (by kernel_rfl) (by kernel_rfl) (by kernel_rfl) (
              .cons (d := some 66) (by kernel_rfl) (does_load (t := 24) (x := .tmp 2) (k := 1) (off := 0) (b := ⟨[.int .i64 x, .int .i64 y], 24, true, 2⟩) (v := .agg #[.int .i64 x, .int .i64 y]) (by kernel_rfl) (by kernel_rfl) (by kernel_rfl) (by kernel_rfl)) <|
              .cons (d := some 67) (by kernel_rfl) (does_call0 (x := .func 26) (ars := #[.tmp 66]) (ats := #[24]) (g := 26) (vs := [.agg #[.int .i64 x, .int .i64 y]]) (v := .int .i64 (Sp.index x y)) (by kernel_rfl) (by kernel_rfl) (by kernel_rfl) (by kernel_rfl) (cindex_ok x y) (by kernel_rfl) (by kernel_rfl)) <|
              .cons (d := some 68) (by kernel_rfl) (does_move (x := .tmp 7) (v := .int .i64 (Sp.index x y)) (by kernel_rfl) (by kernel_rfl)) <|
              .cons (d := some 69) (by kernel_rfl) (does_bool (b' := true) (does_pure (v := .bool ((Sp.index x y) == (Sp.index x y))) (by kernel_rfl) (fun w => by kernel_rfl) (by kernel_rfl)) (by simp)) <|
              .cons (d := some 70) (by kernel_rfl) (does_move (x := .tmp 69) (v := .bool true) (by kernel_rfl) (by kernel_rfl)) <|
              .cons (d := some 71) (by kernel_rfl) (does_move (x := .tmp 9) (v := .int .i64 (Sp.ofe (Sp.index x y))) (by kernel_rfl) (by kernel_rfl)) <|
              .cons (d := some 72) (by kernel_rfl) (does_bool (b' := true) (does_pure (v := .bool ((Sp.ofe (Sp.index x y)) == 0)) (by kernel_rfl) (fun w => by kernel_rfl) (by kernel_rfl)) (by rw [(Sp.of_index x y).1]; rfl)) <|
              .cons (d := some 73) (by kernel_rfl) (does_pick (c := .tmp 70) (x := .tmp 72) (y := .const (.bool false)) (b := true) (v := .bool true) (by kernel_rfl) (by kernel_rfl) (by kernel_rfl)) <|
              .cons (d := some 74) (by kernel_rfl) (does_move (x := .tmp 73) (v := .bool true) (by kernel_rfl) (by kernel_rfl)) <|
              .cons (d := some 75) (by kernel_rfl) (does_load (t := 24) (x := .tmp 8) (k := 3) (off := 0) (b := ⟨[.int .i64 (Sp.ofx (Sp.index x y)), .int .i64 (Sp.ofy (Sp.index x y))], 24, true, 2⟩) (v := .agg #[.int .i64 (Sp.ofx (Sp.index x y)), .int .i64 (Sp.ofy (Sp.index x y))]) (by kernel_rfl) (by kernel_rfl) (by kernel_rfl) (by kernel_rfl)) <|
              .cons (d := some 76) (by kernel_rfl) (does_load (t := 24) (x := .tmp 2) (k := 1) (off := 0) (b := ⟨[.int .i64 x, .int .i64 y], 24, true, 2⟩) (v := .agg #[.int .i64 x, .int .i64 y]) (by kernel_rfl) (by kernel_rfl) (by kernel_rfl) (by kernel_rfl)) <|
              .cons (d := some 77) (by kernel_rfl) (does_call0 (x := .func 16) (ars := #[.tmp 76]) (ats := #[24]) (g := 16) (vs := [.agg #[.int .i64 x, .int .i64 y]]) (v := .agg #[.int .i64 (Sp.lim 1048576 x), .int .i64 (Sp.lim 1048576 y)]) (by kernel_rfl) (by kernel_rfl) (by kernel_rfl) (by kernel_rfl) (rvalid_ok x y) (by kernel_rfl) (by kernel_rfl)) <|
              .cons (d := some 78) (by kernel_rfl) (does_bool (b' := true) (does_eql (t := 24) (t2 := 24) (x := .tmp 75) (y := .tmp 77) (xs := #[.int .i64 (Sp.ofx (Sp.index x y)), .int .i64 (Sp.ofy (Sp.index x y))]) (ys := #[.int .i64 (Sp.lim 1048576 x), .int .i64 (Sp.lim 1048576 y)]) (b := (((Sp.ofx (Sp.index x y)) == (Sp.lim 1048576 x)) && (((Sp.ofy (Sp.index x y)) == (Sp.lim 1048576 y)) && true))) (by kernel_rfl) (by kernel_rfl) (by kernel_rfl) (by kernel_rfl) (by kernel_rfl) (by kernel_rfl) (by kernel_rfl)) (by rw [(Sp.of_index x y).2.1, (Sp.of_index x y).2.2]; simp)) <|
              .cons (d := some 79) (by kernel_rfl) (does_pick (c := .tmp 74) (x := .tmp 78) (y := .const (.bool false)) (b := true) (v := .bool true) (by kernel_rfl) (by kernel_rfl) (by kernel_rfl)) <|
              .cons (d := some 4) (by kernel_rfl) (does_assign (x := .tmp 79) (v := .bool true) (by kernel_rfl) (by kernel_rfl)) <|
              .nil _ _) ?_
          refine aw_ret (by kernel_rfl) ?_
          exact end_ret (vs := [.bool true]) (by kernel_rfl) (by kernel_rfl) trivial
        · have h4p : ¬ (((Sp.ofe n) = 0)) := by first | (simpa using h4) | (have h4q := h4; simp at h4q; omega) | (have h4q := bx2 h4; simp at h4q; omega)
          refine aw_plain_seq (r := sub (bodyOf Try.f4) [true, true, true, false, true, true, false]) (y := sub (bodyOf Try.f4) [true, true, true, false, true, true, true]) (id := 7) (ops := regOps (sub (bodyOf Try.f4) [true, true, true, false, true, true, false])) (by kernel_rfl) (by kernel_rfl) (by kernel_rfl) (by kernel_rfl) (
              .cons (d := some 38) (by kernel_rfl) (does_move (x := .tmp 6) (v := .int .i64 (Sp.ofe n)) (by kernel_rfl) (by kernel_rfl)) <|
              .cons (d := some 39) (by kernel_rfl) (does_bool (b' := true) (does_pure (v := .bool ((Sp.ofe n) != 0)) (by kernel_rfl) (fun w => by kernel_rfl) (by kernel_rfl)) (h3)) <|
              .cons (d := some 40) (by kernel_rfl) (does_move (x := .tmp 39) (v := .bool true) (by kernel_rfl) (by kernel_rfl)) <|
              .cons (d := some 41) (by kernel_rfl) (does_move (x := .tmp 6) (v := .int .i64 (Sp.ofe n)) (by kernel_rfl) (by kernel_rfl)) <|
              .cons (d := some 42) (by kernel_rfl) (does_bool (b' := false) (does_pure (v := .bool ((Sp.ofe n) != 17)) (by kernel_rfl) (fun w => by kernel_rfl) (by kernel_rfl)) (by have q := Sp.ofe_cases (n := n) (by omega); have q2 : ¬ Sp.ofe n = 0 := (by simpa using ‹(Sp.ofe n != 0) = true›); rw [q.resolve_left q2]; rfl)) <|
              .cons (d := some 43) (by kernel_rfl) (does_move (x := .tmp 42) (v := .bool false) (by kernel_rfl) (by kernel_rfl)) <|
              .cons (d := some 44) (by kernel_rfl) (does_load (t := 24) (x := .tmp 5) (k := 2) (off := 0) (b := ⟨[.int .i64 (Sp.ofx n), .int .i64 (Sp.ofy n)], 24, true, 2⟩) (v := .agg #[.int .i64 (Sp.ofx n), .int .i64 (Sp.ofy n)]) (by kernel_rfl) (by kernel_rfl) (by kernel_rfl) (by kernel_rfl)) <|
              .cons (d := some 45) (by kernel_rfl) (does_pure (v := .agg #[.int .i64 0, .int .i64 0]) (by kernel_rfl) (fun w => by kernel_rfl) (by kernel_rfl)) <|
              .cons (d := some 46) (by kernel_rfl) (does_bool (b' := false) (does_neq (t := 24) (t2 := 24) (x := .tmp 44) (y := .tmp 45) (xs := #[.int .i64 (Sp.ofx n), .int .i64 (Sp.ofy n)]) (ys := #[.int .i64 0, .int .i64 0]) (b := (((Sp.ofx n) == 0) && (((Sp.ofy n) == 0) && true))) (by kernel_rfl) (by kernel_rfl) (by kernel_rfl) (by kernel_rfl) (by kernel_rfl) (by kernel_rfl) (by kernel_rfl)) (by rw [(Sp.ofxy_nz (n := n) (by first | (rw [Sp.ofe_out (by omega)]; decide) | (simpa using ‹(Sp.ofe n != 0) = true›))).1, (Sp.ofxy_nz (n := n) (by first | (rw [Sp.ofe_out (by omega)]; decide) | (simpa using ‹(Sp.ofe n != 0) = true›))).2]; rfl)) <|
              .cons (d := some 47) (by kernel_rfl) (does_pick (c := .tmp 43) (x := .const (.bool true)) (y := .tmp 46) (b := false) (v := .bool false) (by kernel_rfl) (by kernel_rfl) (by kernel_rfl)) <|
              .cons (d := some 48) (by kernel_rfl) (does_pick (c := .tmp 40) (x := .tmp 47) (y := .const (.bool false)) (b := true) (v := .bool false) (by kernel_rfl) (by kernel_rfl) (by kernel_rfl)) <|
              .cons (d := some 49) (by kernel_rfl) (does_move (x := .tmp 48) (v := .bool false) (by kernel_rfl) (by kernel_rfl)) <|
              .cons (d := some 50) (by kernel_rfl) (does_move (x := .tmp 6) (v := .int .i64 (Sp.ofe n)) (by kernel_rfl) (by kernel_rfl)) <|
              .cons (d := some 51) (by kernel_rfl) (does_bool (b' := false) (does_pure (v := .bool ((Sp.ofe n) == 0)) (by kernel_rfl) (fun w => by kernel_rfl) (by kernel_rfl)) (h4)) <|
              .cons (d := some 52) (by kernel_rfl) (does_move (x := .tmp 51) (v := .bool false) (by kernel_rfl) (by kernel_rfl)) <|
              .cons (d := some 53) (by kernel_rfl) (does_skipB (by kernel_rfl)) <|
              .cons (d := some 54) (by kernel_rfl) (does_skipB (by kernel_rfl)) <|
              .cons (d := some 55) (by kernel_rfl) (does_skipB (by kernel_rfl)) <|
              .cons (d := some 56) (by kernel_rfl) (does_skipB (by kernel_rfl)) <|
              .cons (d := some 57) (by kernel_rfl) (does_pick (c := .tmp 52) (x := .tmp 56) (y := .const (.bool false)) (b := false) (v := .bool false) (by kernel_rfl) (by kernel_rfl) (by kernel_rfl)) <|
              .cons (d := some 58) (by kernel_rfl) (does_pick (c := .tmp 49) (x := .const (.bool true)) (y := .tmp 57) (b := false) (v := .bool false) (by kernel_rfl) (by kernel_rfl) (by kernel_rfl)) <|
              .nil _ _) ?_
          refine aw_false (o := .tmp 58) (x := sub (bodyOf Try.f4) [true, true, true, false, true, true, true, false]) (y := sub (bodyOf Try.f4) [true, true, true, false, true, true, true, true]) (by kernel_rfl) (by kernel_rfl) ?_
          refine aw_skip (by kernel_rfl) ?_
          refine then_normal ?_
          refine aw_plain_seq (r := sub (bodyOf Try.f4) [true, true, true, true, false]) (y := sub (bodyOf Try.f4) [true, true, true, true, true]) (id := 9) (ops := regOps (sub (bodyOf Try.f4) [true, true, true, true, false])) (by kernel_rfl) (by kernel_rfl) (by kernel_rfl) (by kernel_rfl) (
              .cons (d := some 59) (by kernel_rfl) (does_load (t := 24) (x := .tmp 2) (k := 1) (off := 0) (b := ⟨[.int .i64 x, .int .i64 y], 24, true, 2⟩) (v := .agg #[.int .i64 x, .int .i64 y]) (by kernel_rfl) (by kernel_rfl) (by kernel_rfl) (by kernel_rfl)) <|
              .cons (d := some 60) (by kernel_rfl) (does_call0 (x := .func 28) (ars := #[.tmp 59]) (ats := #[24]) (g := 28) (vs := [.agg #[.int .i64 x, .int .i64 y]]) (v := .int .i64 (Sp.index x y)) (by kernel_rfl) (by kernel_rfl) (by kernel_rfl) (by kernel_rfl) (rcurve_ok x y) (by kernel_rfl) (by kernel_rfl)) <|
              .cons (d := some 7) (by kernel_rfl) (does_assign (x := .tmp 60) (v := .int .i64 (Sp.index x y)) (by kernel_rfl) (by kernel_rfl)) <|
              .nil _ _) ?_
          refine aw_plain_seq (r := sub (bodyOf Try.f4) [true, true, true, true, true, false]) (y := sub (bodyOf Try.f4) [true, true, true, true, true, true]) (id := 10) (ops := regOps (sub (bodyOf Try.f4) [true, true, true, true, true, false])) (by kernel_rfl) (by kernel_rfl) (by kernel_rfl) (by kernel_rfl) (
              .cons (d := some 62) (by kernel_rfl) (does_move (x := .tmp 7) (v := .int .i64 (Sp.index x y)) (by kernel_rfl) (by kernel_rfl)) <|
              .cons (d := some 63) (by kernel_rfl) (does_call0 (x := .func 27) (ars := #[.tmp 62]) (ats := #[3]) (g := 27) (vs := [.int .i64 (Sp.index x y)]) (v := .tuple #[.agg #[.int .i64 (Sp.ofx (Sp.index x y)), .int .i64 (Sp.ofy (Sp.index x y))], .int .i64 (Sp.ofe (Sp.index x y))]) (by kernel_rfl) (by kernel_rfl) (by kernel_rfl) (by kernel_rfl) (cof_ok (Sp.index x y)) (by kernel_rfl) (by kernel_rfl)) <|
              .cons (d := some 61) (by kernel_rfl) (does_move (x := .tmp 63) (v := .tuple #[.agg #[.int .i64 (Sp.ofx (Sp.index x y)), .int .i64 (Sp.ofy (Sp.index x y))], .int .i64 (Sp.ofe (Sp.index x y))]) (by kernel_rfl) (by kernel_rfl)) <|
              .cons (d := some 64) (by kernel_rfl) (does_extract (x := .tmp 61) (n := 0) (vs := #[.agg #[.int .i64 (Sp.ofx (Sp.index x y)), .int .i64 (Sp.ofy (Sp.index x y))], .int .i64 (Sp.ofe (Sp.index x y))]) (v := .agg #[.int .i64 (Sp.ofx (Sp.index x y)), .int .i64 (Sp.ofy (Sp.index x y))]) (by kernel_rfl) (by kernel_rfl) (by kernel_rfl)) <|
              .cons (d := some 65) (by kernel_rfl) (does_extract (x := .tmp 61) (n := 1) (vs := #[.agg #[.int .i64 (Sp.ofx (Sp.index x y)), .int .i64 (Sp.ofy (Sp.index x y))], .int .i64 (Sp.ofe (Sp.index x y))]) (v := .int .i64 (Sp.ofe (Sp.index x y))) (by kernel_rfl) (by kernel_rfl) (by kernel_rfl)) <|
              .cons (d := some 8) (by kernel_rfl) (does_alloc (t := 24) (k := 3) (v := .agg #[.int .i64 0, .int .i64 0]) (cells := [.int .i64 0, .int .i64 0]) (by kernel_rfl) (by kernel_rfl) (by kernel_rfl) (by kernel_rfl) (by kernel_rfl)) <|
              .cons (d := none) (by kernel_rfl) (does_store (t := 24) (x := .tmp 8) (y := .tmp 64) (k := 3) (off := 0) (b := ⟨[.int .i64 0, .int .i64 0], 24, true, 2⟩) (v := .agg #[.int .i64 (Sp.ofx (Sp.index x y)), .int .i64 (Sp.ofy (Sp.index x y))]) (cells := [.int .i64 (Sp.ofx (Sp.index x y)), .int .i64 (Sp.ofy (Sp.index x y))]) (by kernel_rfl) (by kernel_rfl) (by kernel_rfl) (by kernel_rfl) rfl (by kernel_rfl) (by kernel_rfl) (by kernel_rfl) (by kernel_rfl)) <|
              .cons (d := some 9) (by kernel_rfl) (does_assign (x := .tmp 65) (v := .int .i64 (Sp.ofe (Sp.index x y))) (by kernel_rfl) (by kernel_rfl)) <|
              .nil _ _) ?_
          refine aw_draws_seq (r := sub (bodyOf Try.f4) [true, true, true, true, true, true, false]) (y := sub (bodyOf Try.f4) [true, true, true, true, true, true, true]) (id := 11) (ops := regOps (sub (bodyOf Try.f4) [true, true, true, true, true, true, false])) [[], [0], [], [0, 1, 2], [0, 1, 2, 3], [0, 1, 2, 3, 4], [0, 1, 2, 3, 4, 5], [0, 1, 2, 3, 4, 5, 6], [0, 1, 2, 3, 4, 5, 6, 7], [0, 1, 2, 3, 4, 5, 6, 7, 8], [0, 1, 2, 3, 4, 5, 6, 7, 8], [0, 1, 2, 3, 4, 5, 6, 7, 8, 10], [0, 1, 2, 3, 4, 5, 6, 7, 8, 9, 10, 11], [0, 1, 2, 3, 4, 5, 6, 7, 8, 9, 10, 11, 12], [0, 1, 2, 3, 4, 5, 6, 7, 8, 9, 10, 11, 12, 13]] (by kernel_rfl) (by kernel_rfl) (by kernel_rfl) (by kernel_rfl) (by kernel_rfl) (by kernel_rfl) (
              .cons (d := some 66) (by kernel_rfl) (does_load (t := 24) (x := .tmp 2) (k := 1) (off := 0) (b := ⟨[.int .i64 x, .int .i64 y], 24, true, 2⟩) (v := .agg #[.int .i64 x, .int .i64 y]) (by kernel_rfl) (by kernel_rfl) (by kernel_rfl) (by kernel_rfl)) <|
              .cons (d := some 67) (by kernel_rfl) (does_call0 (x := .func 26) (ars := #[.tmp 66]) (ats := #[24]) (g := 26) (vs := [.agg #[.int .i64 x, .int .i64 y]]) (v := .int .i64 (Sp.index x y)) (by kernel_rfl) (by kernel_rfl) (by kernel_rfl) (by kernel_rfl) (cindex_ok x y) (by kernel_rfl) (by kernel_rfl)) <|
              .cons (d := some 68) (by kernel_rfl) (does_move (x := .tmp 7) (v := .int .i64 (Sp.index x y)) (by kernel_rfl) (by kernel_rfl)) <|
              .cons (d := some 69) (by kernel_rfl) (does_bool (b' := true) (does_pure (v := .bool ((Sp.index x y) == (Sp.index x y))) (by kernel_rfl) (fun w => by kernel_rfl) (by kernel_rfl)) (by simp)) <|
              .cons (d := some 70) (by kernel_rfl) (does_move (x := .tmp 69) (v := .bool true) (by kernel_rfl) (by kernel_rfl)) <|
              .cons (d := some 71) (by kernel_rfl) (does_move (x := .tmp 9) (v := .int .i64 (Sp.ofe (Sp.index x y))) (by kernel_rfl) (by kernel_rfl)) <|
              .cons (d := some 72) (by kernel_rfl) (does_bool (b' := true) (does_pure (v := .bool ((Sp.ofe (Sp.index x y)) == 0)) (by kernel_rfl) (fun w => by kernel_rfl) (by kernel_rfl)) (by rw [(Sp.of_index x y).1]; rfl)) <|
              .cons (d := some 73) (by kernel_rfl) (does_pick (c := .tmp 70) (x := .tmp 72) (y := .const (.bool false)) (b := true) (v := .bool true) (by kernel_rfl) (by kernel_rfl) (by kernel_rfl)) <|
              .cons (d := some 74) (by kernel_rfl) (does_move (x := .tmp 73) (v := .bool true) (by kernel_rfl) (by kernel_rfl)) <|
              .cons (d := some 75) (by kernel_rfl) (does_load (t := 24) (x := .tmp 8) (k := 3) (off := 0) (b := ⟨[.int .i64 (Sp.ofx (Sp.index x y)), .int .i64 (Sp.ofy (Sp.index x y))], 24, true, 2⟩) (v := .agg #[.int .i64 (Sp.ofx (Sp.index x y)), .int .i64 (Sp.ofy (Sp.index x y))]) (by kernel_rfl) (by kernel_rfl) (by kernel_rfl) (by kernel_rfl)) <|
              .cons (d := some 76) (by kernel_rfl) (does_load (t := 24) (x := .tmp 2) (k := 1) (off := 0) (b := ⟨[.int .i64 x, .int .i64 y], 24, true, 2⟩) (v := .agg #[.int .i64 x, .int .i64 y]) (by kernel_rfl) (by kernel_rfl) (by kernel_rfl) (by kernel_rfl)) <|
              .cons (d := some 77) (by kernel_rfl) (does_call0 (x := .func 16) (ars := #[.tmp 76]) (ats := #[24]) (g := 16) (vs := [.agg #[.int .i64 x, .int .i64 y]]) (v := .agg #[.int .i64 (Sp.lim 1048576 x), .int .i64 (Sp.lim 1048576 y)]) (by kernel_rfl) (by kernel_rfl) (by kernel_rfl) (by kernel_rfl) (rvalid_ok x y) (by kernel_rfl) (by kernel_rfl)) <|
              .cons (d := some 78) (by kernel_rfl) (does_bool (b' := true) (does_eql (t := 24) (t2 := 24) (x := .tmp 75) (y := .tmp 77) (xs := #[.int .i64 (Sp.ofx (Sp.index x y)), .int .i64 (Sp.ofy (Sp.index x y))]) (ys := #[.int .i64 (Sp.lim 1048576 x), .int .i64 (Sp.lim 1048576 y)]) (b := (((Sp.ofx (Sp.index x y)) == (Sp.lim 1048576 x)) && (((Sp.ofy (Sp.index x y)) == (Sp.lim 1048576 y)) && true))) (by kernel_rfl) (by kernel_rfl) (by kernel_rfl) (by kernel_rfl) (by kernel_rfl) (by kernel_rfl) (by kernel_rfl)) (by rw [(Sp.of_index x y).2.1, (Sp.of_index x y).2.2]; simp)) <|
              .cons (d := some 79) (by kernel_rfl) (does_pick (c := .tmp 74) (x := .tmp 78) (y := .const (.bool false)) (b := true) (v := .bool true) (by kernel_rfl) (by kernel_rfl) (by kernel_rfl)) <|
              .cons (d := some 4) (by kernel_rfl) (does_assign (x := .tmp 79) (v := .bool true) (by kernel_rfl) (by kernel_rfl)) <|
              .nil _ _) ?_
          refine aw_ret (by kernel_rfl) ?_
          exact end_ret (vs := [.bool true]) (by kernel_rfl) (by kernel_rfl) trivial
      · have h3p : ¬ (¬ ((Sp.ofe n) = 0)) := by first | (simpa using h3) | (have h3q := h3; simp at h3q; omega) | (have h3q := bx2 h3; simp at h3q; omega)
        rcases Bool.eq_false_or_eq_true ((Sp.ofe n) == 0) with h5 | h5
        · have h5p : (((Sp.ofe n) = 0)) := by first | (simpa using h5) | (have h5q := h5; simp at h5q; omega) | (have h5q := bx1 h5; simp at h5q; omega)
          refine aw_plain_seq (r := sub (bodyOf Try.f4) [true, true, true, false, true, true, false]) (y := sub (bodyOf Try.f4) [true, true, true, false, true, true, true]) (id := 7) (ops := regOps (sub (bodyOf Try.f4) [true, true, true, false, true, true, false])) (by kernel_rfl) (by kernel_rfl) (by kernel_rfl) (by kernel_rfl) (
              .cons (d := some 38) (by kernel_rfl) (does_move (x := .tmp 6) (v := .int .i64 (Sp.ofe n)) (by kernel_rfl) (by kernel_rfl)) <|
              .cons (d := some 39) (by kernel_rfl) (does_bool (b' := false) (does_pure (v := .bool ((Sp.ofe n) != 0)) (by kernel_rfl) (fun w => by kernel_rfl) (by kernel_rfl)) (h3)) <|
              .cons (d := some 40) (by kernel_rfl) (does_move (x := .tmp 39) (v := .bool false) (by kernel_rfl) (by kernel_rfl)) <|
              .cons (d := some 41) (by kernel_rfl) (does_skipB (by kernel_rfl)) <|
              .cons (d := some 42) (by kernel_rfl) (does_skipB (by kernel_rfl)) <|
              .cons (d := some 43) (by kernel_rfl) (does_skipB (by kernel_rfl)) <|
              .cons (d := some 44) (by kernel_rfl) (does_skipB (by kernel_rfl)) <|
              .cons (d := some 45) (by kernel_rfl) (does_skipB (by kernel_rfl)) <|
              .cons (d := some 46) (by kernel_rfl) (does_skipB (by kernel_rfl)) <|
              .cons (d := some 47) (by kernel_rfl) (does_skipB (by kernel_rfl)) <|
              .cons (d := some 48) (by kernel_rfl) (does_pick (c := .tmp 40) (x := .tmp 47) (y := .const (.bool false)) (b := false) (v := .bool false) (by kernel_rfl) (by kernel_rfl) (by kernel_rfl)) <|
              .cons (d := some 49) (by kernel_rfl) (does_move (x := .tmp 48) (v := .bool false) (by kernel_rfl) (by kernel_rfl)) <|
              .cons (d := some 50) (by kernel_rfl) (does_move (x := .tmp 6) (v := .int .i64 (Sp.ofe n)) (by kernel_rfl) (by kernel_rfl)) <|
              .cons (d := some 51) (by kernel_rfl) (does_bool (b' := true) (does_pure (v := .bool ((Sp.ofe n) == 0)) (by kernel_rfl) (fun w => by kernel_rfl) (by kernel_rfl)) (h5)) <|
              .cons (d := some 52) (by kernel_rfl) (does_move (x := .tmp 51) (v := .bool true) (by kernel_rfl) (by kernel_rfl)) <|
              .cons (d := some 53) (by kernel_rfl) (does_load (t := 24) (x := .tmp 5) (k := 2) (off := 0) (b := ⟨[.int .i64 (Sp.ofx n), .int .i64 (Sp.ofy n)], 24, true, 2⟩) (v := .agg #[.int .i64 (Sp.ofx n), .int .i64 (Sp.ofy n)]) (by kernel_rfl) (by kernel_rfl) (by kernel_rfl) (by kernel_rfl)) <|
              .cons (d := some 54) (by kernel_rfl) (does_call0 (x := .func 28) (ars := #[.tmp 53]) (ats := #[24]) (g := 28) (vs := [.agg #[.int .i64 (Sp.ofx n), .int .i64 (Sp.ofy n)]]) (v := .int .i64 (Sp.index (Sp.ofx n) (Sp.ofy n))) (by kernel_rfl) (by kernel_rfl) (by kernel_rfl) (by kernel_rfl) (rcurve_ok (Sp.ofx n) (Sp.ofy n)) (by kernel_rfl) (by kernel_rfl)) <|
              .cons (d := some 55) (by kernel_rfl) (does_move (x := .tmp 1) (v := .int .i64 n) (by kernel_rfl) (by kernel_rfl)) <|
              .cons (d := some 56) (by kernel_rfl) (does_bool (b' := false) (does_pure (v := .bool ((Sp.index (Sp.ofx n) (Sp.ofy n)) != n)) (by kernel_rfl) (fun w => by kernel_rfl) (by kernel_rfl)) (by rw [Sp.index_of (by simpa using ‹(Sp.ofe n == 0) = true›)]; simp)) <|
              .cons (d := some 57) (by kernel_rfl) (does_pick (c := .tmp 52) (x := .tmp 56) (y := .const (.bool false)) (b := true) (v := .bool false) (by kernel_rfl) (by kernel_rfl) (by kernel_rfl)) <|
              .cons (d := some 58) (by kernel_rfl) (does_pick (c := .tmp 49) (x := .const (.bool true)) (y := .tmp 57) (b := false) (v := .bool false) (by kernel_rfl) (by kernel_rfl) (by kernel_rfl)) <|
              .nil _ _) ?_
          refine aw_false (o := .tmp 58) (x := sub (bodyOf Try.f4) [true, true, true, false, true, true, true, false]) (y := sub (bodyOf Try.f4) [true, true, true, false, true, true, true, true]) (by kernel_rfl) (by kernel_rfl) ?_
          refine aw_skip (by kernel_rfl) ?_
          refine then_normal ?_
          refine aw_plain_seq (r := sub (bodyOf Try.f4) [true, true, true, true, false]) (y := sub (bodyOf Try.f4) [true, true, true, true, true]) (id := 9) (ops := regOps (sub (bodyOf Try.f4) [true, true, true, true, false])) (by kernel_rfl) (by kernel_rfl) (by kernel_rfl) (by kernel_rfl) (
              .cons (d := some 59) (by kernel_rfl) (does_load (t := 24) (x := .tmp 2) (k := 1) (off := 0) (b := ⟨[.int .i64 x, .int .i64 y], 24, true, 2⟩) (v := .agg #[.int .i64 x, .int .i64 y]) (by kernel_rfl) (by kernel_rfl) (by kernel_rfl) (by kernel_rfl)) <|
              .cons (d := some 60) (by kernel_rfl) (does_call0 (x := .func 28) (ars := #[.tmp 59]) (ats := #[24]) (g := 28) (vs := [.agg #[.int .i64 x, .int .i64 y]]) (v := .int .i64 (Sp.index x y)) (by kernel_rfl) (by kernel_rfl) (by kernel_rfl) (by kernel_rfl) (rcurve_ok x y) (by kernel_rfl) (by kernel_rfl)) <|
              .cons (d := some 7) (by kernel_rfl) (does_assign (x := .tmp 60) (v := .int .i64 (Sp.index x y)) (by kernel_rfl) (by kernel_rfl)) <|
              .nil _ _) ?_
          refine aw_plain_seq (r := sub (bodyOf Try.f4) [true, true, true, true, true, false]) (y := sub (bodyOf Try.f4) [true, true, true, true, true, true]) (id := 10) (ops := regOps (sub (bodyOf Try.f4) [true, true, true, true, true, false])) (by kernel_rfl) (by kernel_rfl) (by kernel_rfl) (by kernel_rfl) (
              .cons (d := some 62) (by kernel_rfl) (does_move (x := .tmp 7) (v := .int .i64 (Sp.index x y)) (by kernel_rfl) (by kernel_rfl)) <|
              .cons (d := some 63) (by kernel_rfl) (does_call0 (x := .func 27) (ars := #[.tmp 62]) (ats := #[3]) (g := 27) (vs := [.int .i64 (Sp.index x y)]) (v := .tuple #[.agg #[.int .i64 (Sp.ofx (Sp.index x y)), .int .i64 (Sp.ofy (Sp.index x y))], .int .i64 (Sp.ofe (Sp.index x y))]) (by kernel_rfl) (by kernel_rfl) (by kernel_rfl) (by kernel_rfl) (cof_ok (Sp.index x y)) (by kernel_rfl) (by kernel_rfl)) <|
              .cons (d := some 61) (by kernel_rfl) (does_move (x := .tmp 63) (v := .tuple #[.agg #[.int .i64 (Sp.ofx (Sp.index x y)), .int .i64 (Sp.ofy (Sp.index x y))], .int .i64 (Sp.ofe (Sp.index x y))]) (by kernel_rfl) (by kernel_rfl)) <|
              .cons (d := some 64) (by kernel_rfl) (does_extract (x := .tmp 61) (n := 0) (vs := #[.agg #[.int .i64 (Sp.ofx (Sp.index x y)), .int .i64 (Sp.ofy (Sp.index x y))], .int .i64 (Sp.ofe (Sp.index x y))]) (v := .agg #[.int .i64 (Sp.ofx (Sp.index x y)), .int .i64 (Sp.ofy (Sp.index x y))]) (by kernel_rfl) (by kernel_rfl) (by kernel_rfl)) <|
              .cons (d := some 65) (by kernel_rfl) (does_extract (x := .tmp 61) (n := 1) (vs := #[.agg #[.int .i64 (Sp.ofx (Sp.index x y)), .int .i64 (Sp.ofy (Sp.index x y))], .int .i64 (Sp.ofe (Sp.index x y))]) (v := .int .i64 (Sp.ofe (Sp.index x y))) (by kernel_rfl) (by kernel_rfl) (by kernel_rfl)) <|
              .cons (d := some 8) (by kernel_rfl) (does_alloc (t := 24) (k := 3) (v := .agg #[.int .i64 0, .int .i64 0]) (cells := [.int .i64 0, .int .i64 0]) (by kernel_rfl) (by kernel_rfl) (by kernel_rfl) (by kernel_rfl) (by kernel_rfl)) <|
              .cons (d := none) (by kernel_rfl) (does_store (t := 24) (x := .tmp 8) (y := .tmp 64) (k := 3) (off := 0) (b := ⟨[.int .i64 0, .int .i64 0], 24, true, 2⟩) (v := .agg #[.int .i64 (Sp.ofx (Sp.index x y)), .int .i64 (Sp.ofy (Sp.index x y))]) (cells := [.int .i64 (Sp.ofx (Sp.index x y)), .int .i64 (Sp.ofy (Sp.index x y))]) (by kernel_rfl) (by kernel_rfl) (by kernel_rfl) (by kernel_rfl) rfl (by kernel_rfl) (by kernel_rfl) (by kernel_rfl) (by kernel_rfl)) <|
              .cons (d := some 9) (by kernel_rfl) (does_assign (x := .tmp 65) (v := .int .i64 (Sp.ofe (Sp.index x y))) (by kernel_rfl) (by kernel_rfl)) <|
              .nil _ _) ?_
          refine aw_draws_seq (r := sub (bodyOf Try.f4) [true, true, true, true, true, true, false]) (y := sub (bodyOf Try.f4) [true, true, true, true, true, true, true]) (id := 11) (ops := regOps (sub (bodyOf Try.f4) [true, true, true, true, true, true, false])) [[], [0], [], [0, 1, 2], [0, 1, 2, 3], [0, 1, 2, 3, 4], [0, 1, 2, 3, 4, 5], [0, 1, 2, 3, 4, 5, 6], [0, 1, 2, 3, 4, 5, 6, 7], [0, 1, 2, 3, 4, 5, 6, 7, 8], [0, 1, 2, 3, 4, 5, 6, 7, 8], [0, 1, 2, 3, 4, 5, 6, 7, 8, 10], [0, 1, 2, 3, 4, 5, 6, 7, 8, 9, 10, 11], [0, 1, 2, 3, 4, 5, 6, 7, 8, 9, 10, 11, 12], [0, 1, 2, 3, 4, 5, 6, 7, 8, 9, 10, 11, 12, 13]] (by kernel_rfl) (by kernel_rfl) (by kernel_rfl) (by kernel_rfl) (by kernel_rfl) (by kernel_rfl) (
              .cons (d := some 66) (by kernel_rfl) (does_load (t := 24) (x := .tmp 2) (k := 1) (off := 0) (b := ⟨[.int .i64 x, .int .i64 y], 24, true, 2⟩) (v := .agg #[.int .i64 x, .int .i64 y]) (by kernel_rfl) (by kernel_rfl) (by kernel_rfl) (by kernel_rfl)) <|
              .cons (d := some 67) (by kernel_rfl) (does_call0 (x := .func 26) (ars := #[.tmp 66]) (ats := #[24]) (g := 26) (vs := [.agg #[.int .i64 x, .int .i64 y]]) (v := .int .i64 (Sp.index x y)) (by kernel_rfl) (by kernel_rfl) (by kernel_rfl) (by kernel_rfl) (cindex_ok x y) (by kernel_rfl) (by kernel_rfl)) <|
              .cons (d := some 68) (by kernel_rfl) (does_move (x := .tmp 7) (v := .int .i64 (Sp.index x y)) (by kernel_rfl) (by kernel_rfl)) <|
              .cons (d := some 69) (by kernel_rfl) (does_bool (b' := true) (does_pure (v := .bool ((Sp.index x y) == (Sp.index x y))) (by kernel_rfl) (fun w => by kernel_rfl) (by kernel_rfl)) (by simp)) <|
              .cons (d := some 70) (by kernel_rfl) (does_move (x := .tmp 69) (v := .bool true) (by kernel_rfl) (by kernel_rfl)) <|
              .cons (d := some 71) (by kernel_rfl) (does_move (x := .tmp 9) (v := .int .i64 (Sp.ofe (Sp.index x y))) (by kernel_rfl) (by kernel_rfl)) <|
              .cons (d := some 72) (by kernel_rfl) (does_bool (b' := true) (does_pure (v := .bool ((Sp.ofe (Sp.index x y)) == 0)) (by kernel_rfl) (fun w => by kernel_rfl) (by kernel_rfl)) (by rw [(Sp.of_index x y).1]; rfl)) <|
              .cons (d := some 73) (by kernel_rfl) (does_pick (c := .tmp 70) (x := .tmp 72) (y := .const (.bool false)) (b := true) (v := .bool true) (by kernel_rfl) (by kernel_rfl) (by kernel_rfl)) <|
              .cons (d := some 74) (by kernel_rfl) (does_move (x := .tmp 73) (v := .bool true) (by kernel_rfl) (by kernel_rfl)) <|
              .cons (d := some 75) (by kernel_rfl) (does_load (t := 24) (x := .tmp 8) (k := 3) (off := 0) (b := ⟨[.int .i64 (Sp.ofx (Sp.index x y)), .int .i64 (Sp.ofy (Sp.index x y))], 24, true, 2⟩) (v := .agg #[.int .i64 (Sp.ofx (Sp.index x y)), .int .i64 (Sp.ofy (Sp.index x y))]) (by kernel_rfl) (by kernel_rfl) (by kernel_rfl) (by kernel_rfl)) <|
              .cons (d := some 76) (by kernel_rfl) (does_load (t := 24) (x := .tmp 2) (k := 1) (off := 0) (b := ⟨[.int .i64 x, .int .i64 y], 24, true, 2⟩) (v := .agg #[.int .i64 x, .int .i64 y]) (by kernel_rfl) (by kernel_rfl) (by kernel_rfl) (by kernel_rfl)) <|
              .cons (d := some 77) (by kernel_rfl) (does_call0 (x := .func 16) (ars := #[.tmp 76]) (ats := #[24]) (g := 16) (vs := [.agg #[.int .i64 x, .int .i64 y]]) (v := .agg #[.int .i64 (Sp.lim 1048576 x), .int .i64 (Sp.lim 1048576 y)]) (by kernel_rfl) (by kernel_rfl) (by kernel_rfl) (by kernel_rfl) (rvalid_ok x y) (by kernel_rfl) (by kernel_rfl)) <|
              .cons (d := some 78) (by kernel_rfl) (does_bool (b' := true) (does_eql (t := 24) (t2 := 24) (x := .tmp 75) (y := .tmp 77) (xs := #[.int .i64 (Sp.ofx (Sp.index x y)), .int .i64 (Sp.ofy (Sp.index x y))]) (ys := #[.int .i64 (Sp.lim 1048576 x), .int .i64 (Sp.lim 1048576 y)]) (b := (((Sp.ofx (Sp.index x y)) == (Sp.lim 1048576 x)) && (((Sp.ofy (Sp.index x y)) == (Sp.lim 1048576 y)) && true))) (by kernel_rfl) (by kernel_rfl) (by kernel_rfl) (by kernel_rfl) (by kernel_rfl) (by kernel_rfl) (by kernel_rfl)) (by rw [(Sp.of_index x y).2.1, (Sp.of_index x y).2.2]; simp)) <|
              .cons (d := some 79) (by kernel_rfl) (does_pick (c := .tmp 74) (x := .tmp 78) (y := .const (.bool false)) (b := true) (v := .bool true) (by kernel_rfl) (by kernel_rfl) (by kernel_rfl)) <|
              .cons (d := some 4) (by kernel_rfl) (does_assign (x := .tmp 79) (v := .bool true) (by kernel_rfl) (by kernel_rfl)) <|
              .nil _ _) ?_
          refine aw_ret (by kernel_rfl) ?_
          exact end_ret (vs := [.bool true]) (by kernel_rfl) (by kernel_rfl) trivial
        · have h5p : ¬ (((Sp.ofe n) = 0)) := by first | (simpa using h5) | (have h5q := h5; simp at h5q; omega) | (have h5q := bx2 h5; simp at h5q; omega)
          refine aw_plain_seq (r := sub (bodyOf Try.f4) [true, true, true, false, true, true, false]) (y := sub (bodyOf Try.f4) [true, true, true, false, true, true, true]) (id := 7) (ops := regOps (sub (bodyOf Try.f4) [true, true, true, false, true, true, false])) (by kernel_rfl) (by kernel_rfl) (by kernel_rfl) (by kernel_rfl) (
              .cons (d := some 38) (by kernel_rfl) (does_move (x := .tmp 6) (v := .int .i64 (Sp.ofe n)) (by kernel_rfl) (by kernel_rfl)) <|
              .cons (d := some 39) (by kernel_rfl) (does_bool (b' := false) (does_pure (v := .bool ((Sp.ofe n) != 0)) (by kernel_rfl) (fun w => by kernel_rfl) (by kernel_rfl)) (h3)) <|
              .cons (d := some 40) (by kernel_rfl) (does_move (x := .tmp 39) (v := .bool false) (by kernel_rfl) (by kernel_rfl)) <|
              .cons (d := some 41) (by kernel_rfl) (does_skipB (by kernel_rfl)) <|
              .cons (d := some 42) (by kernel_rfl) (does_skipB (by kernel_rfl)) <|
              .cons (d := some 43) (by kernel_rfl) (does_skipB (by kernel_rfl)) <|
              .cons (d := some 44) (by kernel_rfl) (does_skipB (by kernel_rfl)) <|
              .cons (d := some 45) (by kernel_rfl) (does_skipB (by kernel_rfl)) <|
              .cons (d := some 46) (by kernel_rfl) (does_skipB (by kernel_rfl)) <|
              .cons (d := some 47) (by kernel_rfl) (does_skipB (by kernel_rfl)) <|
              .cons (d := some 48) (by kernel_rfl) (does_pick (c := .tmp 40) (x := .tmp 47) (y := .const (.bool false)) (b := false) (v := .bool false) (by kernel_rfl) (by kernel_rfl) (by kernel_rfl)) <|
              .cons (d := some 49) (by kernel_rfl) (does_move (x := .tmp 48) (v := .bool false) (by kernel_rfl) (by kernel_rfl)) <|
              .cons (d := some 50) (by kernel_rfl) (does_move (x := .tmp 6) (v := .int .i64 (Sp.ofe n)) (by kernel_rfl) (by kernel_rfl)) <|
              .cons (d := some 51) (by kernel_rfl) (does_bool (b' := false) (does_pure (v := .bool ((Sp.ofe n) == 0)) (by kernel_rfl) (fun w => by kernel_rfl) (by kernel_rfl)) (h5)) <|
              .cons (d := some 52) (by kernel_rfl) (does_move (x := .tmp 51) (v := .bool false) (by kernel_rfl) (by kernel_rfl)) <|
              .cons (d := some 53) (by kernel_rfl) (does_skipB (by kernel_rfl)) <|
              .cons (d := some 54) (by kernel_rfl) (does_skipB (by kernel_rfl)) <|
              .cons (d := some 55) (by kernel_rfl) (does_skipB (by kernel_rfl)) <|
              .cons (d := some 56) (by kernel_rfl) (does_skipB (by kernel_rfl)) <|
              .cons (d := some 57) (by kernel_rfl) (does_pick (c := .tmp 52) (x := .tmp 56) (y := .const (.bool false)) (b := false) (v := .bool false) (by kernel_rfl) (by kernel_rfl) (by kernel_rfl)) <|
              .cons (d := some 58) (by kernel_rfl) (does_pick (c := .tmp 49) (x := .const (.bool true)) (y := .tmp 57) (b := false) (v := .bool false) (by kernel_rfl) (by kernel_rfl) (by kernel_rfl)) <|
              .nil _ _) ?_
          refine aw_false (o := .tmp 58) (x := sub (bodyOf Try.f4) [true, true, true, false, true, true, true, false]) (y := sub (bodyOf Try.f4) [true, true, true, false, true, true, true, true]) (by kernel_rfl) (by kernel_rfl) ?_
          refine aw_skip (by kernel_rfl) ?_
          refine then_normal ?_
          refine aw_plain_seq (r := sub (bodyOf Try.f4) [true, true, true, true, false]) (y := sub (bodyOf Try.f4) [true, true, true, true, true]) (id := 9) (ops := regOps (sub (bodyOf Try.f4) [true, true, true, true, false])) (by kernel_rfl) (by kernel_rfl) (by kernel_rfl) (by kernel_rfl) (
              .cons (d := some 59) (by kernel_rfl) (does_load (t := 24) (x := .tmp 2) (k := 1) (off := 0) (b := ⟨[.int .i64 x, .int .i64 y], 24, true, 2⟩) (v := .agg #[.int .i64 x, .int .i64 y]) (by kernel_rfl) (by kernel_rfl) (by kernel_rfl) (by kernel_rfl)) <|
              .cons (d := some 60) (by kernel_rfl) (does_call0 (x := .func 28) (ars := #[.tmp 59]) (ats := #[24]) (g := 28) (vs := [.agg #[.int .i64 x, .int .i64 y]]) (v := .int .i64 (Sp.index x y)) (by kernel_rfl) (by kernel_rfl) (by kernel_rfl) (by kernel_rfl) (rcurve_ok x y) (by kernel_rfl) (by kernel_rfl)) <|
              .cons (d := some 7) (by kernel_rfl) (does_assign (x := .tmp 60) (v := .int .i64 (Sp.index x y)) (by kernel_rfl) (by kernel_rfl)) <|
              .nil _ _) ?_
          refine aw_plain_seq (r := sub (bodyOf Try.f4) [true, true, true, true, true, false]) (y := sub (bodyOf Try.f4) [true, true, true, true, true, true]) (id := 10) (ops := regOps (sub (bodyOf Try.f4) [true, true, true, true, true, false])) (by kernel_rfl) (by kernel_rfl) (by kernel_rfl) (by kernel_rfl) (
              .cons (d := some 62) (by kernel_rfl) (does_move (x := .tmp 7) (v := .int .i64 (Sp.index x y)) (by kernel_rfl) (by kernel_rfl)) <|
              .cons (d := some 63) (by kernel_rfl) (does_call0 (x := .func 27) (ars := #[.tmp 62]) (ats := #[3]) (g := 27) (vs := [.int .i64 (Sp.index x y)]) (v := .tuple #[.agg #[.int .i64 (Sp.ofx (Sp.index x y)), .int .i64 (Sp.ofy (Sp.index x y))], .int .i64 (Sp.ofe (Sp.index x y))]) (by kernel_rfl) (by kernel_rfl) (by kernel_rfl) (by kernel_rfl) (cof_ok (Sp.index x y)) (by kernel_rfl) (by kernel_rfl)) <|
              .cons (d := some 61) (by kernel_rfl) (does_move (x := .tmp 63) (v := .tuple #[.agg #[.int .i64 (Sp.ofx (Sp.index x y)), .int .i64 (Sp.ofy (Sp.index x y))], .int .i64 (Sp.ofe (Sp.index x y))]) (by kernel_rfl) (by kernel_rfl)) <|
              .cons (d := some 64) (by kernel_rfl) (does_extract (x := .tmp 61) (n := 0) (vs := #[.agg #[.int .i64 (Sp.ofx (Sp.index x y)), .int .i64 (Sp.ofy (Sp.index x y))], .int .i64 (Sp.ofe (Sp.index x y))]) (v := .agg #[.int .i64 (Sp.ofx (Sp.index x y)), .int .i64 (Sp.ofy (Sp.index x y))]) (by kernel_rfl) (by kernel_rfl) (by kernel_rfl)) <|
              .cons (d := some 65) (by kernel_rfl) (does_extract (x := .tmp 61) (n := 1) (vs := #[.agg #[.int .i64 (Sp.ofx (Sp.index x y)), .int .i64 (Sp.ofy (Sp.index x y))], .int .i64 (Sp.ofe (Sp.index x y))]) (v := .int .i64 (Sp.ofe (Sp.index x y))) (by kernel_rfl) (by kernel_rfl) (by kernel_rfl)) <|
              .cons (d := some 8) (by kernel_rfl) (does_alloc (t := 24) (k := 3) (v := .agg #[.int .i64 0, .int .i64 0]) (cells := [.int .i64 0, .int .i64 0]) (by kernel_rfl) (by kernel_rfl) (by kernel_rfl) (by kernel_rfl) (by kernel_rfl)) <|
              .cons (d := none) (by kernel_rfl) (does_store (t := 24) (x := .tmp 8) (y := .tmp 64) (k := 3) (off := 0) (b := ⟨[.int .i64 0, .int .i64 0], 24, true, 2⟩) (v := .agg #[.int .i64 (Sp.ofx (Sp.index x y)), .int .i64 (Sp.ofy (Sp.index x y))]) (cells := [.int .i64 (Sp.ofx (Sp.index x y)), .int .i64 (Sp.ofy (Sp.index x y))]) (by kernel_rfl) (by kernel_rfl) (by kernel_rfl) (by kernel_rfl) rfl (by kernel_rfl) (by kernel_rfl) (by kernel_rfl) (by kernel_rfl)) <|
              .cons (d := some 9) (by kernel_rfl) (does_assign (x := .tmp 65) (v := .int .i64 (Sp.ofe (Sp.index x y))) (by kernel_rfl) (by kernel_rfl)) <|
              .nil _ _) ?_
          refine aw_draws_seq (r := sub (bodyOf Try.f4) [true, true, true, true, true, true, false]) (y := sub (bodyOf Try.f4) [true, true, true, true, true, true, true]) (id := 11) (ops := regOps (sub (bodyOf Try.f4) [true, true, true, true, true, true, false])) [[], [0], [], [0, 1, 2], [0, 1, 2, 3], [0, 1, 2, 3, 4], [0, 1, 2, 3, 4, 5], [0, 1, 2, 3, 4, 5, 6], [0, 1, 2, 3, 4, 5, 6, 7], [0, 1, 2, 3, 4, 5, 6, 7, 8], [0, 1, 2, 3, 4, 5, 6, 7, 8], [0, 1, 2, 3, 4, 5, 6, 7, 8, 10], [0, 1, 2, 3, 4, 5, 6, 7, 8, 9, 10, 11], [0, 1, 2, 3, 4, 5, 6, 7, 8, 9, 10, 11, 12], [0, 1, 2, 3, 4, 5, 6, 7, 8, 9, 10, 11, 12, 13]] (by kernel_rfl) (by kernel_rfl) (by kernel_rfl) (by kernel_rfl) (by kernel_rfl) (by kernel_rfl) (
              .cons (d := some 66) (by kernel_rfl) (does_load (t := 24) (x := .tmp 2) (k := 1) (off := 0) (b := ⟨[.int .i64 x, .int .i64 y], 24, true, 2⟩) (v := .agg #[.int .i64 x, .int .i64 y]) (by kernel_rfl) (by kernel_rfl) (by kernel_rfl) (by kernel_rfl)) <|
              .cons (d := some 67) (by kernel_rfl) (does_call0 (x := .func 26) (ars := #[.tmp 66]) (ats := #[24]) (g := 26) (vs := [.agg #[.int .i64 x, .int .i64 y]]) (v := .int .i64 (Sp.index x y)) (by kernel_rfl) (by kernel_rfl) (by kernel_rfl) (by kernel_rfl) (cindex_ok x y) (by kernel_rfl) (by kernel_rfl)) <|
              .cons (d := some 68) (by kernel_rfl) (does_move (x := .tmp 7) (v := .int .i64 (Sp.index x y)) (by kernel_rfl) (by kernel_rfl)) <|
              .cons (d := some 69) (by kernel_rfl) (does_bool (b' := true) (does_pure (v := .bool ((Sp.index x y) == (Sp.index x y))) (by kernel_rfl) (fun w => by kernel_rfl) (by kernel_rfl)) (by simp)) <|
              .cons (d := some 70) (by kernel_rfl) (does_move (x := .tmp 69) (v := .bool true) (by kernel_rfl) (by kernel_rfl)) <|
              .cons (d := some 71) (by kernel_rfl) (does_move (x := .tmp 9) (v := .int .i64 (Sp.ofe (Sp.index x y))) (by kernel_rfl) (by kernel_rfl)) <|
              .cons (d := some 72) (by kernel_rfl) (does_bool (b' := true) (does_pure (v := .bool ((Sp.ofe (Sp.index x y)) == 0)) (by kernel_rfl) (fun w => by kernel_rfl) (by kernel_rfl)) (by rw [(Sp.of_index x y).1]; rfl)) <|
              .cons (d := some 73) (by kernel_rfl) (does_pick (c := .tmp 70) (x := .tmp 72) (y := .const (.bool false)) (b := true) (v := .bool true) (by kernel_rfl) (by kernel_rfl) (by kernel_rfl)) <|
              .cons (d := some 74) (by kernel_rfl) (does_move (x := .tmp 73) (v := .bool true) (by kernel_rfl) (by kernel_rfl)) <|
              .cons (d := some 75) (by kernel_rfl) (does_load (t := 24) (x := .tmp 8) (k := 3) (off := 0) (b := ⟨[.int .i64 (Sp.ofx (Sp.index x y)), .int .i64 (Sp.ofy (Sp.index x y))], 24, true, 2⟩) (v := .agg #[.int .i64 (Sp.ofx (Sp.index x y)), .int .i64 (Sp.ofy (Sp.index x y))]) (by kernel_rfl) (by kernel_rfl) (by kernel_rfl) (by kernel_rfl)) <|
              .cons (d := some 76) (by kernel_rfl) (does_load (t := 24) (x := .tmp 2) (k := 1) (off := 0) (b := ⟨[.int .i64 x, .int .i64 y], 24, true, 2⟩) (v := .agg #[.int .i64 x, .int .i64 y]) (by kernel_rfl) (by kernel_rfl) (by kernel_rfl) (by kernel_rfl)) <|
              .cons (d := some 77) (by kernel_rfl) (does_call0 (x := .func 16) (ars := #[.tmp 76]) (ats := #[24]) (g := 16) (vs := [.agg #[.int .i64 x, .int .i64 y]]) (v := .agg #[.int .i64 (Sp.lim 1048576 x), .int .i64 (Sp.lim 1048576 y)]) (by kernel_rfl) (by kernel_rfl) (by kernel_rfl) (by kernel_rfl) (rvalid_ok x y) (by kernel_rfl) (by kernel_rfl)) <|
              .cons (d := some 78) (by kernel_rfl) (does_bool (b' := true) (does_eql (t := 24) (t2 := 24) (x := .tmp 75) (y := .tmp 77) (xs := #[.int .i64 (Sp.ofx (Sp.index x y)), .int .i64 (Sp.ofy (Sp.index x y))]) (ys := #[.int .i64 (Sp.lim 1048576 x), .int .i64 (Sp.lim 1048576 y)]) (b := (((Sp.ofx (Sp.index x y)) == (Sp.lim 1048576 x)) && (((Sp.ofy (Sp.index x y)) == (Sp.lim 1048576 y)) && true))) (by kernel_rfl) (by kernel_rfl) (by kernel_rfl) (by kernel_rfl) (by kernel_rfl) (by kernel_rfl) (by kernel_rfl)) (by rw [(Sp.of_index x y).2.1, (Sp.of_index x y).2.2]; simp)) <|
              .cons (d := some 79) (by kernel_rfl) (does_pick (c := .tmp 74) (x := .tmp 78) (y := .const (.bool false)) (b := true) (v := .bool true) (by kernel_rfl) (by kernel_rfl) (by kernel_rfl)) <|
              .cons (d := some 4) (by kernel_rfl) (does_assign (x := .tmp 79) (v := .bool true) (by kernel_rfl) (by kernel_rfl)) <|
              .nil _ _) ?_
          refine aw_ret (by kernel_rfl) ?_
          exact end_ret (vs := [.bool true]) (by kernel_rfl) (by kernel_rfl) trivial


end Go.Proofs.Ytpfdihhlpegllaa.Am
