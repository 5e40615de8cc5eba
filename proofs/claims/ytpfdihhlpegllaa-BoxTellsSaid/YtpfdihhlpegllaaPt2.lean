/-
  The walks of the document's own functions of points.
-/
import Derived.Test.YtpfdihhlpegllaaProg
import Derived.Test.YtpfdihhlpegllaaAm9
import Derived.Test.YtpfdihhlpegllaaSp3
import Derived.Test.YtpfdihhlpegllaaPt1
namespace Go.Proofs.Ytpfdihhlpegllaa.Am
open Go Go.Proofs
set_option maxRecDepth 100000
set_option maxHeartbeats 4000000
set_option linter.unusedVariables false
set_option linter.unusedSimpArgs false

theorem rwithin_ok (n m : Int) (h0 : 0 ≤ m) (h1 : m ≤ 4611686018427387904) :
    AC Try.prog 74 0 ([.int .i64 n, .int .i64 m]) [] (.int .i64 (Sp.lim m n)) [] := by
  refine ac_intro (fn := Try.f74) (c := bodyOf Try.f74) Try.func74 (by kernel_rfl) (by kernel_rfl) (by kernel_rfl) ?_
  intro w0 W pin
  refine aw_sub ?_
  refine aw_plain_seq (r := sub (bodyOf Try.f74) [false]) (y := sub (bodyOf Try.f74) [true]) (id := 0) (ops := regOps (sub (bodyOf Try.f74) [false])) (by kernel_rfl) (by kernel_rfl) (by kernel_rfl) (by kernel_rfl) (
      .cons (d := some 4) (by kernel_rfl) (does_assign (x := .const (.int .i64 0)) (v := .int .i64 0) (by kernel_rfl) (by kernel_rfl)) <|
      .nil _ _) ?_
  refine aw_weak (weak_b (T := [(0, .int .i64 n), (1, .int .i64 m), (4, .int .i64 0)]) (L := []) (by kernel_rfl) (by kernel_rfl) (by kernel_rfl)) ?_
  refine aw_seq (x := sub (bodyOf Try.f74) [true, false]) (y := sub (bodyOf Try.f74) [true, true]) (by kernel_rfl) ?_
  refine aw_block (id := 0) (x := sub (bodyOf Try.f74) [true, false, true]) (by kernel_rfl) ?_
  refine aw_plain_seq (r := sub (bodyOf Try.f74) [true, false, true, false]) (y := sub (bodyOf Try.f74) [true, false, true, true]) (id := 1) (ops := regOps (sub (bodyOf Try.f74) [true, false, true, false])) (by kernel_rfl) (by kernel_rfl) (by kernel_rfl) (by kernel_rfl) (
      .cons (d := some 6) (by kernel_rfl) (does_move (x := .tmp 0) (v := .int .i64 n) (by kernel_rfl) (by kernel_rfl)) <|
      .cons (d := some 7) (by kernel_rfl) (does_move (x := .tmp 1) (v := .int .i64 m) (by kernel_rfl) (by kernel_rfl)) <|
      .cons (d := some 8) (by kernel_rfl) (does_pure (v := .bool (decide (n > m))) (by kernel_rfl) (fun w => by kernel_rfl) (by kernel_rfl)) <|
      .cons (d := some 5) (by kernel_rfl) (does_assign (x := .tmp 8) (v := .bool (decide (n > m))) (by kernel_rfl) (by kernel_rfl)) <|
      .nil _ _) ?_
  refine aw_weak (weak_b (T := [(0, .int .i64 n), (1, .int .i64 m), (4, .int .i64 0), (5, .bool (decide (n > m)))]) (L := []) (by kernel_rfl) (by kernel_rfl) (by kernel_rfl)) ?_
  refine aw_cond (o := .tmp 5) (b := decide (n > m)) (x := sub (bodyOf Try.f74) [true, false, true, true, false]) (y := sub (bodyOf Try.f74) [true, false, true, true, true]) (by kernel_rfl) (by kernel_rfl) (fun h1 => ?_) (fun h1 => ?_)
  · have h1p : ((n > m)) := by first | (simpa using h1) | (have h1q := h1; simp at h1q; omega) | (have h1q := bx1 h1; simp at h1q; omega)
    refine aw_plain_seq (r := sub (bodyOf Try.f74) [true, false, true, true, false, false]) (y := sub (bodyOf Try.f74) [true, false, true, true, false, true]) (id := 2) (ops := regOps (sub (bodyOf Try.f74) [true, false, true, true, false, false])) (by kernel_rfl) (by kernel_rfl) (by kernel_rfl) (by kernel_rfl) (
        .cons (d := some 9) (by kernel_rfl) (does_move (x := .tmp 1) (v := .int .i64 m) (by kernel_rfl) (by kernel_rfl)) <|
        .cons (d := some 4) (by kernel_rfl) (does_assign (x := .tmp 9) (v := .int .i64 m) (by kernel_rfl) (by kernel_rfl)) <|
        .nil _ _) ?_
    refine aw_weak (weak_b (T := [(0, .int .i64 n), (1, .int .i64 m), (4, .int .i64 m), (5, .bool (decide (n > m)))]) (L := []) (by kernel_rfl) (by kernel_rfl) (by kernel_rfl)) ?_
    refine aw_ret (by kernel_rfl) ?_
    refine block_ret ?_
    refine then_ret ?_
    exact end_ret (vs := [.int .i64 m]) (by kernel_rfl) (show (.int .i64 m : Value) = (.int .i64 (Sp.lim m n)) from (congrArg (Value.int .i64) (show m = (Sp.lim m n) from by (first | rfl | (simp only [Sp.lim, Sp.cmp, Sp.sgn]; (repeat' split) <;> omega))))) trivial
  · have h1p : ¬ ((n > m)) := by first | (simpa using h1) | (have h1q := h1; simp at h1q; omega) | (have h1q := bx2 h1; simp at h1q; omega)
    refine aw_plain_seq (r := sub (bodyOf Try.f74) [true, false, true, true, true, false]) (y := sub (bodyOf Try.f74) [true, false, true, true, true, true]) (id := 3) (ops := regOps (sub (bodyOf Try.f74) [true, false, true, true, true, false])) (by kernel_rfl) (by kernel_rfl) (by kernel_rfl) (by kernel_rfl) (
        .cons (d := some 11) (by kernel_rfl) (does_move (x := .tmp 0) (v := .int .i64 n) (by kernel_rfl) (by kernel_rfl)) <|
        .cons (d := some 12) (by kernel_rfl) (does_move (x := .tmp 1) (v := .int .i64 m) (by kernel_rfl) (by kernel_rfl)) <|
        .cons (d := some 13) (by kernel_rfl) (does_int (n' := 0 - m) (does_pure (v := .int .i64 (IntKind.wrap .i64 (0 - m))) (by kernel_rfl) (fun w => by kernel_rfl) (by kernel_rfl)) (wrap_i64 (by omega) (by omega))) <|
        .cons (d := some 14) (by kernel_rfl) (does_pure (v := .bool (decide (n < (0 - m)))) (by kernel_rfl) (fun w => by kernel_rfl) (by kernel_rfl)) <|
        .cons (d := some 10) (by kernel_rfl) (does_assign (x := .tmp 14) (v := .bool (decide (n < (0 - m)))) (by kernel_rfl) (by kernel_rfl)) <|
        .nil _ _) ?_
    refine aw_weak (weak_b (T := [(0, .int .i64 n), (1, .int .i64 m), (4, .int .i64 0), (5, .bool (decide (n > m))), (10, .bool (decide (n < (0 - m))))]) (L := []) (by kernel_rfl) (by kernel_rfl) (by kernel_rfl)) ?_
    refine aw_cond (o := .tmp 10) (b := decide (n < (0 - m))) (x := sub (bodyOf Try.f74) [true, false, true, true, true, true, false]) (y := sub (bodyOf Try.f74) [true, false, true, true, true, true, true]) (by kernel_rfl) (by kernel_rfl) (fun h2 => ?_) (fun h2 => ?_)
    · have h2p : ((n < (0 - m))) := by first | (simpa using h2) | (have h2q := h2; simp at h2q; omega) | (have h2q := bx1 h2; simp at h2q; omega)
      refine aw_plain_seq (r := sub (bodyOf Try.f74) [true, false, true, true, true, true, false, false]) (y := sub (bodyOf Try.f74) [true, false, true, true, true, true, false, true]) (id := 4) (ops := regOps (sub (bodyOf Try.f74) [true, false, true, true, true, true, false, false])) (by kernel_rfl) (by kernel_rfl) (by kernel_rfl) (by kernel_rfl) (
          .cons (d := some 15) (by kernel_rfl) (does_move (x := .tmp 1) (v := .int .i64 m) (by kernel_rfl) (by kernel_rfl)) <|
          .cons (d := some 16) (by kernel_rfl) (does_int (n' := 0 - m) (does_pure (v := .int .i64 (IntKind.wrap .i64 (0 - m))) (by kernel_rfl) (fun w => by kernel_rfl) (by kernel_rfl)) (wrap_i64 (by omega) (by omega))) <|
          .cons (d := some 4) (by kernel_rfl) (does_assign (x := .tmp 16) (v := .int .i64 (0 - m)) (by kernel_rfl) (by kernel_rfl)) <|
          .nil _ _) ?_
      refine aw_weak (weak_b (T := [(0, .int .i64 n), (1, .int .i64 m), (4, .int .i64 (0 - m)), (5, .bool (decide (n > m))), (10, .bool (decide (n < (0 - m))))]) (L := []) (by kernel_rfl) (by kernel_rfl) (by kernel_rfl)) ?_
      refine aw_ret (by kernel_rfl) ?_
      refine block_ret ?_
      refine then_ret ?_
      exact end_ret (vs := [.int .i64 (0 - m)]) (by kernel_rfl) (show (.int .i64 (0 - m) : Value) = (.int .i64 (Sp.lim m n)) from (congrArg (Value.int .i64) (show (0 - m) = (Sp.lim m n) from by (first | rfl | (simp only [Sp.lim, Sp.cmp, Sp.sgn]; (repeat' split) <;> omega))))) trivial
    · have h2p : ¬ ((n < (0 - m))) := by first | (simpa using h2) | (have h2q := h2; simp at h2q; omega) | (have h2q := bx2 h2; simp at h2q; omega)
      refine aw_skip (by kernel_rfl) ?_
      refine block_normal ?_
      refine then_normal ?_
      refine aw_plain_seq (r := sub (bodyOf Try.f74) [true, true, false]) (y := sub (bodyOf Try.f74) [true, true, true]) (id := 5) (ops := regOps (sub (bodyOf Try.f74) [true, true, false])) (by kernel_rfl) (by kernel_rfl) (by kernel_rfl) (by kernel_rfl) (
          .cons (d := some 17) (by kernel_rfl) (does_move (x := .tmp 0) (v := .int .i64 n) (by kernel_rfl) (by kernel_rfl)) <|
          .cons (d := some 4) (by kernel_rfl) (does_assign (x := .tmp 17) (v := .int .i64 n) (by kernel_rfl) (by kernel_rfl)) <|
          .nil _ _) ?_
      refine aw_weak (weak_b (T := [(0, .int .i64 n), (1, .int .i64 m), (4, .int .i64 n), (5, .bool (decide (n > m))), (10, .bool (decide (n < (0 - m))))]) (L := []) (by kernel_rfl) (by kernel_rfl) (by kernel_rfl)) ?_
      refine aw_ret (by kernel_rfl) ?_
      exact end_ret (vs := [.int .i64 n]) (by kernel_rfl) (show (.int .i64 n : Value) = (.int .i64 (Sp.lim m n)) from (congrArg (Value.int .i64) (show n = (Sp.lim m n) from by (first | rfl | (simp only [Sp.lim, Sp.cmp, Sp.sgn]; (repeat' split) <;> omega))))) trivial

theorem rvalid_ok (x y : Int) :
    AC Try.prog 16 0 ([.agg #[.int .i64 x, .int .i64 y]]) [] (.agg #[.int .i64 (Sp.lim 1048576 x), .int .i64 (Sp.lim 1048576 y)]) [] := by
  refine ac_intro (fn := Try.f16) (c := bodyOf Try.f16) Try.func16 (by kernel_rfl) (by kernel_rfl) (by kernel_rfl) ?_
  intro w0 W pin
  refine aw_sub ?_
  refine aw_plain_seq (r := sub (bodyOf Try.f16) [false]) (y := sub (bodyOf Try.f16) [true]) (id := 0) (ops := regOps (sub (bodyOf Try.f16) [false])) (by kernel_rfl) (by kernel_rfl) (by kernel_rfl) (by kernel_rfl) (
      .cons (d := some 1) (by kernel_rfl) (does_box (t := 24) (x := .tmp 0) (k := 1) (v := .agg #[.int .i64 x, .int .i64 y]) (cells := [.int .i64 x, .int .i64 y]) (by kernel_rfl) (by kernel_rfl) (by kernel_rfl) (by kernel_rfl)) <|
      .cons (d := some 2) (by kernel_rfl) (does_alloc (t := 24) (k := 2) (v := .agg #[.int .i64 0, .int .i64 0]) (cells := [.int .i64 0, .int .i64 0]) (by kernel_rfl) (by kernel_rfl) (by kernel_rfl) (by kernel_rfl) (by kernel_rfl)) <|
      .nil _ _) ?_
  refine aw_weak (weak_b (T := [(1, .pointer (some ⟨1, 0, none⟩)), (2, .pointer (some ⟨2, 0, none⟩))]) (L := [(1, ⟨[.int .i64 x, .int .i64 y], 24, true, 2⟩), (2, ⟨[.int .i64 0, .int .i64 0], 24, true, 2⟩)]) (by kernel_rfl) (by kernel_rfl) (by kernel_rfl)) ?_
  refine aw_draws_seq (r := sub (bodyOf Try.f16) [true, false]) (y := sub (bodyOf Try.f16) [true, true]) (id := 1) (ops := regOps (sub (bodyOf Try.f16) [true, false])) [[], [0], [0, 1], [], [3], [0, 1, 2, 3, 4], [0, 1, 2, 3, 4, 5], [0, 1, 2, 3, 4, 5, 6]] (by kernel_rfl) (by kernel_rfl) (by kernel_rfl) (by kernel_rfl) (by kernel_rfl) (by kernel_rfl) (
      .cons (d := some 3) (by kernel_rfl) (does_fieldAddr (s := 24) (x := .tmp 1) (f := 0) (k := 1) (off := 0) (d := 0) (by kernel_rfl) (by kernel_rfl) (by kernel_rfl)) <|
      .cons (d := some 4) (by kernel_rfl) (does_load (t := 3) (x := .tmp 3) (k := 1) (off := 0) (b := ⟨[.int .i64 x, .int .i64 y], 24, true, 2⟩) (v := .int .i64 x) (by kernel_rfl) (by kernel_rfl) (by kernel_rfl) (by kernel_rfl)) <|
      .cons (d := some 5) (by kernel_rfl) (does_call0 (x := .func 74) (ars := #[.tmp 4, .const (.int .i64 1048576)]) (ats := #[3, 3]) (g := 74) (vs := [.int .i64 x, .int .i64 1048576]) (v := .int .i64 (Sp.lim 1048576 x)) (by kernel_rfl) (by kernel_rfl) (by kernel_rfl) (by kernel_rfl) (rwithin_ok x 1048576 (by decide) (by decide)) (by kernel_rfl) (by kernel_rfl)) <|
      .cons (d := some 6) (by kernel_rfl) (does_fieldAddr (s := 24) (x := .tmp 1) (f := 1) (k := 1) (off := 0) (d := 1) (by kernel_rfl) (by kernel_rfl) (by kernel_rfl)) <|
      .cons (d := some 7) (by kernel_rfl) (does_load (t := 3) (x := .tmp 6) (k := 1) (off := 1) (b := ⟨[.int .i64 x, .int .i64 y], 24, true, 2⟩) (v := .int .i64 y) (by kernel_rfl) (by kernel_rfl) (by kernel_rfl) (by kernel_rfl)) <|
      .cons (d := some 8) (by kernel_rfl) (does_call0 (x := .func 74) (ars := #[.tmp 7, .const (.int .i64 1048576)]) (ats := #[3, 3]) (g := 74) (vs := [.int .i64 y, .int .i64 1048576]) (v := .int .i64 (Sp.lim 1048576 y)) (by kernel_rfl) (by kernel_rfl) (by kernel_rfl) (by kernel_rfl) (rwithin_ok y 1048576 (by decide) (by decide)) (by kernel_rfl) (by kernel_rfl)) <|
      .cons (d := some 9) (by kernel_rfl) (does_pure (v := .agg #[.int .i64 (Sp.lim 1048576 x), .int .i64 (Sp.lim 1048576 y)]) (by kernel_rfl) (fun w => by kernel_rfl) (by kernel_rfl)) <|
      .cons (d := none) (by kernel_rfl) (does_store (t := 24) (x := .tmp 2) (y := .tmp 9) (k := 2) (off := 0) (b := ⟨[.int .i64 0, .int .i64 0], 24, true, 2⟩) (v := .agg #[.int .i64 (Sp.lim 1048576 x), .int .i64 (Sp.lim 1048576 y)]) (cells := [.int .i64 (Sp.lim 1048576 x), .int .i64 (Sp.lim 1048576 y)]) (by kernel_rfl) (by kernel_rfl) (by kernel_rfl) (by kernel_rfl) rfl (by kernel_rfl) (by kernel_rfl) (by kernel_rfl) (by kernel_rfl)) <|
      .nil _ _) ?_
  refine aw_weak (weak_b (T := [(2, .pointer (some ⟨2, 0, none⟩))]) (L := [(2, ⟨[.int .i64 (Sp.lim 1048576 x), .int .i64 (Sp.lim 1048576 y)], 24, true, 2⟩)]) (by kernel_rfl) (by kernel_rfl) (by kernel_rfl)) ?_
  refine aw_ret (by kernel_rfl) ?_
  exact end_ret (vs := [.agg #[.int .i64 (Sp.lim 1048576 x), .int .i64 (Sp.lim 1048576 y)]]) (by kernel_rfl) (by kernel_rfl) trivial

theorem risvalid_ok (x y : Int) :
    AC Try.prog 31 0 ([.agg #[.int .i64 x, .int .i64 y]]) [] (.bool ((x == (Sp.lim 1048576 x)) && ((y == (Sp.lim 1048576 y)) && true))) [] := by
  refine ac_intro (fn := Try.f31) (c := bodyOf Try.f31) Try.func31 (by kernel_rfl) (by kernel_rfl) (by kernel_rfl) ?_
  intro w0 W pin
  refine aw_sub ?_
  refine aw_plain_seq (r := sub (bodyOf Try.f31) [false]) (y := sub (bodyOf Try.f31) [true]) (id := 0) (ops := regOps (sub (bodyOf Try.f31) [false])) (by kernel_rfl) (by kernel_rfl) (by kernel_rfl) (by kernel_rfl) (
      .cons (d := some 1) (by kernel_rfl) (does_box (t := 24) (x := .tmp 0) (k := 1) (v := .agg #[.int .i64 x, .int .i64 y]) (cells := [.int .i64 x, .int .i64 y]) (by kernel_rfl) (by kernel_rfl) (by kernel_rfl) (by kernel_rfl)) <|
      .cons (d := some 2) (by kernel_rfl) (does_assign (x := .const (.bool false)) (v := .bool false) (by kernel_rfl) (by kernel_rfl)) <|
      .nil _ _) ?_
  refine aw_weak (weak_b (T := [(1, .pointer (some ⟨1, 0, none⟩)), (2, .bool false)]) (L := [(1, ⟨[.int .i64 x, .int .i64 y], 24, true, 2⟩)]) (by kernel_rfl) (by kernel_rfl) (by kernel_rfl)) ?_
  refine aw_draws_seq (r := sub (bodyOf Try.f31) [true, false]) (y := sub (bodyOf Try.f31) [true, true]) (id := 1) (ops := regOps (sub (bodyOf Try.f31) [true, false])) [[], [], [1], [0, 1, 2], [0, 1, 2, 3]] (by kernel_rfl) (by kernel_rfl) (by kernel_rfl) (by kernel_rfl) (by kernel_rfl) (by kernel_rfl) (
      .cons (d := some 3) (by kernel_rfl) (does_load (t := 24) (x := .tmp 1) (k := 1) (off := 0) (b := ⟨[.int .i64 x, .int .i64 y], 24, true, 2⟩) (v := .agg #[.int .i64 x, .int .i64 y]) (by kernel_rfl) (by kernel_rfl) (by kernel_rfl) (by kernel_rfl)) <|
      .cons (d := some 4) (by kernel_rfl) (does_load (t := 24) (x := .tmp 1) (k := 1) (off := 0) (b := ⟨[.int .i64 x, .int .i64 y], 24, true, 2⟩) (v := .agg #[.int .i64 x, .int .i64 y]) (by kernel_rfl) (by kernel_rfl) (by kernel_rfl) (by kernel_rfl)) <|
      .cons (d := some 5) (by kernel_rfl) (does_call0 (x := .func 16) (ars := #[.tmp 4]) (ats := #[24]) (g := 16) (vs := [.agg #[.int .i64 x, .int .i64 y]]) (v := .agg #[.int .i64 (Sp.lim 1048576 x), .int .i64 (Sp.lim 1048576 y)]) (by kernel_rfl) (by kernel_rfl) (by kernel_rfl) (by kernel_rfl) (rvalid_ok x y) (by kernel_rfl) (by kernel_rfl)) <|
      .cons (d := some 6) (by kernel_rfl) (does_eql (t := 24) (t2 := 24) (x := .tmp 3) (y := .tmp 5) (xs := #[.int .i64 x, .int .i64 y]) (ys := #[.int .i64 (Sp.lim 1048576 x), .int .i64 (Sp.lim 1048576 y)]) (b := ((x == (Sp.lim 1048576 x)) && ((y == (Sp.lim 1048576 y)) && true))) (by kernel_rfl) (by kernel_rfl) (by kernel_rfl) (by kernel_rfl) (by kernel_rfl) (by kernel_rfl) (by kernel_rfl)) <|
      .cons (d := some 2) (by kernel_rfl) (does_assign (x := .tmp 6) (v := .bool ((x == (Sp.lim 1048576 x)) && ((y == (Sp.lim 1048576 y)) && true))) (by kernel_rfl) (by kernel_rfl)) <|
      .nil _ _) ?_
  refine aw_weak (weak_b (T := [(2, .bool ((x == (Sp.lim 1048576 x)) && ((y == (Sp.lim 1048576 y)) && true)))]) (L := []) (by kernel_rfl) (by kernel_rfl) (by kernel_rfl)) ?_
  refine aw_ret (by kernel_rfl) ?_
  exact end_ret (vs := [.bool ((x == (Sp.lim 1048576 x)) && ((y == (Sp.lim 1048576 y)) && true))]) (by kernel_rfl) (by kernel_rfl) trivial

theorem rbefore_ok (ax ay bx b_y : Int) :
    AC Try.prog 34 0 ([.agg #[.int .i64 ax, .int .i64 ay], .agg #[.int .i64 bx, .int .i64 b_y]]) [] (.int .i64 (Sp.pcmp ax ay bx b_y)) [] := by
  refine ac_intro (fn := Try.f34) (c := bodyOf Try.f34) Try.func34 (by kernel_rfl) (by kernel_rfl) (by kernel_rfl) ?_
  intro w0 W pin
  refine aw_sub ?_
  refine aw_plain_seq (r := sub (bodyOf Try.f34) [false]) (y := sub (bodyOf Try.f34) [true]) (id := 0) (ops := regOps (sub (bodyOf Try.f34) [false])) (by kernel_rfl) (by kernel_rfl) (by kernel_rfl) (by kernel_rfl) (
      .cons (d := some 2) (by kernel_rfl) (does_box (t := 24) (x := .tmp 0) (k := 1) (v := .agg #[.int .i64 ax, .int .i64 ay]) (cells := [.int .i64 ax, .int .i64 ay]) (by kernel_rfl) (by kernel_rfl) (by kernel_rfl) (by kernel_rfl)) <|
      .cons (d := some 3) (by kernel_rfl) (does_box (t := 24) (x := .tmp 1) (k := 2) (v := .agg #[.int .i64 bx, .int .i64 b_y]) (cells := [.int .i64 bx, .int .i64 b_y]) (by kernel_rfl) (by kernel_rfl) (by kernel_rfl) (by kernel_rfl)) <|
      .cons (d := some 4) (by kernel_rfl) (does_assign (x := .const (.int .i64 0)) (v := .int .i64 0) (by kernel_rfl) (by kernel_rfl)) <|
      .nil _ _) ?_
  refine aw_weak (weak_b (T := [(2, .pointer (some ⟨1, 0, none⟩)), (3, .pointer (some ⟨2, 0, none⟩)), (4, .int .i64 0)]) (L := [(1, ⟨[.int .i64 ax, .int .i64 ay], 24, true, 2⟩), (2, ⟨[.int .i64 bx, .int .i64 b_y], 24, true, 2⟩)]) (by kernel_rfl) (by kernel_rfl) (by kernel_rfl)) ?_
  refine aw_seq (x := sub (bodyOf Try.f34) [true, false]) (y := sub (bodyOf Try.f34) [true, true]) (by kernel_rfl) ?_
  refine aw_block (id := 0) (x := sub (bodyOf Try.f34) [true, false, true]) (by kernel_rfl) ?_
  refine aw_plain_seq (r := sub (bodyOf Try.f34) [true, false, true, false]) (y := sub (bodyOf Try.f34) [true, false, true, true]) (id := 1) (ops := regOps (sub (bodyOf Try.f34) [true, false, true, false])) (by kernel_rfl) (by kernel_rfl) (by kernel_rfl) (by kernel_rfl) (
      .cons (d := some 6) (by kernel_rfl) (does_load (t := 24) (x := .tmp 2) (k := 1) (off := 0) (b := ⟨[.int .i64 ax, .int .i64 ay], 24, true, 2⟩) (v := .agg #[.int .i64 ax, .int .i64 ay]) (by kernel_rfl) (by kernel_rfl) (by kernel_rfl) (by kernel_rfl)) <|
      .cons (d := some 7) (by kernel_rfl) (does_load (t := 24) (x := .tmp 3) (k := 2) (off := 0) (b := ⟨[.int .i64 bx, .int .i64 b_y], 24, true, 2⟩) (v := .agg #[.int .i64 bx, .int .i64 b_y]) (by kernel_rfl) (by kernel_rfl) (by kernel_rfl) (by kernel_rfl)) <|
      .cons (d := some 8) (by kernel_rfl) (does_eql (t := 24) (t2 := 24) (x := .tmp 6) (y := .tmp 7) (xs := #[.int .i64 ax, .int .i64 ay]) (ys := #[.int .i64 bx, .int .i64 b_y]) (b := ((ax == bx) && ((ay == b_y) && true))) (by kernel_rfl) (by kernel_rfl) (by kernel_rfl) (by kernel_rfl) (by kernel_rfl) (by kernel_rfl) (by kernel_rfl)) <|
      .cons (d := some 5) (by kernel_rfl) (does_assign (x := .tmp 8) (v := .bool ((ax == bx) && ((ay == b_y) && true))) (by kernel_rfl) (by kernel_rfl)) <|
      .nil _ _) ?_
  refine aw_weak (weak_b (T := [(2, .pointer (some ⟨1, 0, none⟩)), (3, .pointer (some ⟨2, 0, none⟩)), (4, .int .i64 0), (5, .bool ((ax == bx) && ((ay == b_y) && true)))]) (L := [(1, ⟨[.int .i64 ax, .int .i64 ay], 24, true, 2⟩), (2, ⟨[.int .i64 bx, .int .i64 b_y], 24, true, 2⟩)]) (by kernel_rfl) (by kernel_rfl) (by kernel_rfl)) ?_
  refine aw_cond (o := .tmp 5) (b := ((ax == bx) && ((ay == b_y) && true))) (x := sub (bodyOf Try.f34) [true, false, true, true, false]) (y := sub (bodyOf Try.f34) [true, false, true, true, true]) (by kernel_rfl) (by kernel_rfl) (fun h1 => ?_) (fun h1 => ?_)
  · have h1p : ((ax = bx ∧ ay = b_y)) := by first | (simpa using h1) | (have h1q := h1; simp at h1q; omega) | (have h1q := bx1 h1; simp at h1q; omega)
    refine aw_plain_seq (r := sub (bodyOf Try.f34) [true, false, true, true, false, false]) (y := sub (bodyOf Try.f34) [true, false, true, true, false, true]) (id := 2) (ops := regOps (sub (bodyOf Try.f34) [true, false, true, true, false, false])) (by kernel_rfl) (by kernel_rfl) (by kernel_rfl) (by kernel_rfl) (
        .cons (d := some 4) (by kernel_rfl) (does_assign (x := .const (.int .i64 0)) (v := .int .i64 0) (by kernel_rfl) (by kernel_rfl)) <|
        .nil _ _) ?_
    refine aw_weak (weak_b (T := [(2, .pointer (some ⟨1, 0, none⟩)), (3, .pointer (some ⟨2, 0, none⟩)), (4, .int .i64 0), (5, .bool ((ax == bx) && ((ay == b_y) && true)))]) (L := [(1, ⟨[.int .i64 ax, .int .i64 ay], 24, true, 2⟩), (2, ⟨[.int .i64 bx, .int .i64 b_y], 24, true, 2⟩)]) (by kernel_rfl) (by kernel_rfl) (by kernel_rfl)) ?_
    refine aw_ret (by kernel_rfl) ?_
    refine block_ret ?_
    refine then_ret ?_
    exact end_ret (vs := [.int .i64 0]) (by kernel_rfl) (show (.int .i64 0 : Value) = (.int .i64 (Sp.pcmp ax ay bx b_y)) from (congrArg (Value.int .i64) (show 0 = (Sp.pcmp ax ay bx b_y) from by (rw [Sp.pcmp_form]; (repeat' split) <;> omega)))) trivial
  · have h1p : ¬ ((ax = bx ∧ ay = b_y)) := by first | (simpa using h1) | (have h1q := h1; simp at h1q; omega) | (have h1q := bx2 h1; simp at h1q; omega)
    rcases Bool.eq_false_or_eq_true (decide (ax < bx)) with h2 | h2
    · have h2p : ((ax < bx)) := by first | (simpa using h2) | (have h2q := h2; simp at h2q; omega) | (have h2q := bx1 h2; simp at h2q; omega)
      refine aw_plain_seq (r := sub (bodyOf Try.f34) [true, false, true, true, true, false]) (y := sub (bodyOf Try.f34) [true, false, true, true, true, true]) (id := 3) (ops := regOps (sub (bodyOf Try.f34) [true, false, true, true, true, false])) (by kernel_rfl) (by kernel_rfl) (by kernel_rfl) (by kernel_rfl) (
          .cons (d := some 10) (by kernel_rfl) (does_fieldAddr (s := 24) (x := .tmp 2) (f := 0) (k := 1) (off := 0) (d := 0) (by kernel_rfl) (by kernel_rfl) (by kernel_rfl)) <|
          .cons (d := some 11) (by kernel_rfl) (does_load (t := 3) (x := .tmp 10) (k := 1) (off := 0) (b := ⟨[.int .i64 ax, .int .i64 ay], 24, true, 2⟩) (v := .int .i64 ax) (by kernel_rfl) (by kernel_rfl) (by kernel_rfl) (by kernel_rfl)) <|
          .cons (d := some 12) (by kernel_rfl) (does_fieldAddr (s := 24) (x := .tmp 3) (f := 0) (k := 2) (off := 0) (d := 0) (by kernel_rfl) (by kernel_rfl) (by kernel_rfl)) <|
          .cons (d := some 13) (by kernel_rfl) (does_load (t := 3) (x := .tmp 12) (k := 2) (off := 0) (b := ⟨[.int .i64 bx, .int .i64 b_y], 24, true, 2⟩) (v := .int .i64 bx) (by kernel_rfl) (by kernel_rfl) (by kernel_rfl) (by kernel_rfl)) <|
          .cons (d := some 14) (by kernel_rfl) (does_bool (b' := true) (does_pure (v := .bool (decide (ax < bx))) (by kernel_rfl) (fun w => by kernel_rfl) (by kernel_rfl)) (h2)) <|
          .cons (d := some 15) (by kernel_rfl) (does_move (x := .tmp 14) (v := .bool true) (by kernel_rfl) (by kernel_rfl)) <|
          .cons (d := some 16) (by kernel_rfl) (does_skipB (by kernel_rfl)) <|
          .cons (d := some 17) (by kernel_rfl) (does_skipB (by kernel_rfl)) <|
          .cons (d := some 18) (by kernel_rfl) (does_skipB (by kernel_rfl)) <|
          .cons (d := some 19) (by kernel_rfl) (does_skipB (by kernel_rfl)) <|
          .cons (d := some 20) (by kernel_rfl) (does_skipB (by kernel_rfl)) <|
          .cons (d := some 21) (by kernel_rfl) (does_skipB (by kernel_rfl)) <|
          .cons (d := some 22) (by kernel_rfl) (does_skipB (by kernel_rfl)) <|
          .cons (d := some 23) (by kernel_rfl) (does_skipB (by kernel_rfl)) <|
          .cons (d := some 24) (by kernel_rfl) (does_skipB (by kernel_rfl)) <|
          .cons (d := some 25) (by kernel_rfl) (does_skipB (by kernel_rfl)) <|
          .cons (d := some 26) (by kernel_rfl) (does_skipB (by kernel_rfl)) <|
          .cons (d := some 27) (by kernel_rfl) (does_skipB (by kernel_rfl)) <|
          .cons (d := some 28) (by kernel_rfl) (does_pick (c := .tmp 15) (x := .const (.bool true)) (y := .tmp 27) (b := true) (v := .bool true) (by kernel_rfl) (by kernel_rfl) (by kernel_rfl)) <|
          .cons (d := some 9) (by kernel_rfl) (does_assign (x := .tmp 28) (v := .bool true) (by kernel_rfl) (by kernel_rfl)) <|
          .nil _ _) ?_
      refine aw_weak (weak_b (T := [(2, .pointer (some ⟨1, 0, none⟩)), (3, .pointer (some ⟨2, 0, none⟩)), (4, .int .i64 0), (5, .bool ((ax == bx) && ((ay == b_y) && true))), (9, .bool true)]) (L := [(1, ⟨[.int .i64 ax, .int .i64 ay], 24, true, 2⟩), (2, ⟨[.int .i64 bx, .int .i64 b_y], 24, true, 2⟩)]) (by kernel_rfl) (by kernel_rfl) (by kernel_rfl)) ?_
      refine aw_true (o := .tmp 9) (x := sub (bodyOf Try.f34) [true, false, true, true, true, true, false]) (y := sub (bodyOf Try.f34) [true, false, true, true, true, true, true]) (by kernel_rfl) (by kernel_rfl) ?_
      refine aw_plain_seq (r := sub (bodyOf Try.f34) [true, false, true, true, true, true, false, false]) (y := sub (bodyOf Try.f34) [true, false, true, true, true, true, false, true]) (id := 4) (ops := regOps (sub (bodyOf Try.f34) [true, false, true, true, true, true, false, false])) (by kernel_rfl) (by kernel_rfl) (by kernel_rfl) (by kernel_rfl) (
          .cons (d := some 4) (by kernel_rfl) (does_assign (x := .const (.int .i64 (-1))) (v := .int .i64 (-1)) (by kernel_rfl) (by kernel_rfl)) <|
          .nil _ _) ?_
      refine aw_weak (weak_b (T := [(2, .pointer (some ⟨1, 0, none⟩)), (3, .pointer (some ⟨2, 0, none⟩)), (4, .int .i64 (-1)), (5, .bool ((ax == bx) && ((ay == b_y) && true))), (9, .bool true)]) (L := [(1, ⟨[.int .i64 ax, .int .i64 ay], 24, true, 2⟩), (2, ⟨[.int .i64 bx, .int .i64 b_y], 24, true, 2⟩)]) (by kernel_rfl) (by kernel_rfl) (by kernel_rfl)) ?_
      refine aw_ret (by kernel_rfl) ?_
      refine block_ret ?_
      refine then_ret ?_
      exact end_ret (vs := [.int .i64 (-1)]) (by kernel_rfl) (show (.int .i64 (-1) : Value) = (.int .i64 (Sp.pcmp ax ay bx b_y)) from (congrArg (Value.int .i64) (show (-1) = (Sp.pcmp ax ay bx b_y) from by (rw [Sp.pcmp_form]; (repeat' split) <;> omega)))) trivial
    · have h2p : ¬ ((ax < bx)) := by first | (simpa using h2) | (have h2q := h2; simp at h2q; omega) | (have h2q := bx2 h2; simp at h2q; omega)
      rcases Bool.eq_false_or_eq_true (ax == bx) with h3 | h3
      · have h3p : ((ax = bx)) := by first | (simpa using h3) | (have h3q := h3; simp at h3q; omega) | (have h3q := bx1 h3; simp at h3q; omega)
        refine aw_plain_seq (r := sub (bodyOf Try.f34) [true, false, true, true, true, false]) (y := sub (bodyOf Try.f34) [true, false, true, true, true, true]) (id := 3) (ops := regOps (sub (bodyOf Try.f34) [true, false, true, true, true, false])) (by kernel_rfl) (by kernel_rfl) (by kernel_rfl) (by kernel_rfl) (
            .cons (d := some 10) (by kernel_rfl) (does_fieldAddr (s := 24) (x := .tmp 2) (f := 0) (k := 1) (off := 0) (d := 0) (by kernel_rfl) (by kernel_rfl) (by kernel_rfl)) <|
            .cons (d := some 11) (by kernel_rfl) (does_load (t := 3) (x := .tmp 10) (k := 1) (off := 0) (b := ⟨[.int .i64 ax, .int .i64 ay], 24, true, 2⟩) (v := .int .i64 ax) (by kernel_rfl) (by kernel_rfl) (by kernel_rfl) (by kernel_rfl)) <|
            .cons (d := some 12) (by kernel_rfl) (does_fieldAddr (s := 24) (x := .tmp 3) (f := 0) (k := 2) (off := 0) (d := 0) (by kernel_rfl) (by kernel_rfl) (by kernel_rfl)) <|
            .cons (d := some 13) (by kernel_rfl) (does_load (t := 3) (x := .tmp 12) (k := 2) (off := 0) (b := ⟨[.int .i64 bx, .int .i64 b_y], 24, true, 2⟩) (v := .int .i64 bx) (by kernel_rfl) (by kernel_rfl) (by kernel_rfl) (by kernel_rfl)) <|
            .cons (d := some 14) (by kernel_rfl) (does_bool (b' := false) (does_pure (v := .bool (decide (ax < bx))) (by kernel_rfl) (fun w => by kernel_rfl) (by kernel_rfl)) (h2)) <|
            .cons (d := some 15) (by kernel_rfl) (does_move (x := .tmp 14) (v := .bool false) (by kernel_rfl) (by kernel_rfl)) <|
            .cons (d := some 16) (by kernel_rfl) (does_fieldAddr (s := 24) (x := .tmp 2) (f := 0) (k := 1) (off := 0) (d := 0) (by kernel_rfl) (by kernel_rfl) (by kernel_rfl)) <|
            .cons (d := some 17) (by kernel_rfl) (does_load (t := 3) (x := .tmp 16) (k := 1) (off := 0) (b := ⟨[.int .i64 ax, .int .i64 ay], 24, true, 2⟩) (v := .int .i64 ax) (by kernel_rfl) (by kernel_rfl) (by kernel_rfl) (by kernel_rfl)) <|
            .cons (d := some 18) (by kernel_rfl) (does_fieldAddr (s := 24) (x := .tmp 3) (f := 0) (k := 2) (off := 0) (d := 0) (by kernel_rfl) (by kernel_rfl) (by kernel_rfl)) <|
            .cons (d := some 19) (by kernel_rfl) (does_load (t := 3) (x := .tmp 18) (k := 2) (off := 0) (b := ⟨[.int .i64 bx, .int .i64 b_y], 24, true, 2⟩) (v := .int .i64 bx) (by kernel_rfl) (by kernel_rfl) (by kernel_rfl) (by kernel_rfl)) <|
            .cons (d := some 20) (by kernel_rfl) (does_bool (b' := true) (does_pure (v := .bool (ax == bx)) (by kernel_rfl) (fun w => by kernel_rfl) (by kernel_rfl)) (h3)) <|
            .cons (d := some 21) (by kernel_rfl) (does_move (x := .tmp 20) (v := .bool true) (by kernel_rfl) (by kernel_rfl)) <|
            .cons (d := some 22) (by kernel_rfl) (does_fieldAddr (s := 24) (x := .tmp 2) (f := 1) (k := 1) (off := 0) (d := 1) (by kernel_rfl) (by kernel_rfl) (by kernel_rfl)) <|
            .cons (d := some 23) (by kernel_rfl) (does_load (t := 3) (x := .tmp 22) (k := 1) (off := 1) (b := ⟨[.int .i64 ax, .int .i64 ay], 24, true, 2⟩) (v := .int .i64 ay) (by kernel_rfl) (by kernel_rfl) (by kernel_rfl) (by kernel_rfl)) <|
            .cons (d := some 24) (by kernel_rfl) (does_fieldAddr (s := 24) (x := .tmp 3) (f := 1) (k := 2) (off := 0) (d := 1) (by kernel_rfl) (by kernel_rfl) (by kernel_rfl)) <|
            .cons (d := some 25) (by kernel_rfl) (does_load (t := 3) (x := .tmp 24) (k := 2) (off := 1) (b := ⟨[.int .i64 bx, .int .i64 b_y], 24, true, 2⟩) (v := .int .i64 b_y) (by kernel_rfl) (by kernel_rfl) (by kernel_rfl) (by kernel_rfl)) <|
            .cons (d := some 26) (by kernel_rfl) (does_pure (v := .bool (decide (ay < b_y))) (by kernel_rfl) (fun w => by kernel_rfl) (by kernel_rfl)) <|
            .cons (d := some 27) (by kernel_rfl) (does_pick (c := .tmp 21) (x := .tmp 26) (y := .const (.bool false)) (b := true) (v := .bool (decide (ay < b_y))) (by kernel_rfl) (by kernel_rfl) (by kernel_rfl)) <|
            .cons (d := some 28) (by kernel_rfl) (does_pick (c := .tmp 15) (x := .const (.bool true)) (y := .tmp 27) (b := false) (v := .bool (decide (ay < b_y))) (by kernel_rfl) (by kernel_rfl) (by kernel_rfl)) <|
            .cons (d := some 9) (by kernel_rfl) (does_assign (x := .tmp 28) (v := .bool (decide (ay < b_y))) (by kernel_rfl) (by kernel_rfl)) <|
            .nil _ _) ?_
        refine aw_weak (weak_b (T := [(2, .pointer (some ⟨1, 0, none⟩)), (3, .pointer (some ⟨2, 0, none⟩)), (4, .int .i64 0), (5, .bool ((ax == bx) && ((ay == b_y) && true))), (9, .bool (decide (ay < b_y)))]) (L := [(1, ⟨[.int .i64 ax, .int .i64 ay], 24, true, 2⟩), (2, ⟨[.int .i64 bx, .int .i64 b_y], 24, true, 2⟩)]) (by kernel_rfl) (by kernel_rfl) (by kernel_rfl)) ?_
        refine aw_cond (o := .tmp 9) (b := decide (ay < b_y)) (x := sub (bodyOf Try.f34) [true, false, true, true, true, true, false]) (y := sub (bodyOf Try.f34) [true, false, true, true, true, true, true]) (by kernel_rfl) (by kernel_rfl) (fun h4 => ?_) (fun h4 => ?_)
        · have h4p : ((ay < b_y)) := by first | (simpa using h4) | (have h4q := h4; simp at h4q; omega) | (have h4q := bx1 h4; simp at h4q; omega)
          refine aw_plain_seq (r := sub (bodyOf Try.f34) [true, false, true, true, true, true, false, false]) (y := sub (bodyOf Try.f34) [true, false, true, true, true, true, false, true]) (id := 4) (ops := regOps (sub (bodyOf Try.f34) [true, false, true, true, true, true, false, false])) (by kernel_rfl) (by kernel_rfl) (by kernel_rfl) (by kernel_rfl) (
              .cons (d := some 4) (by kernel_rfl) (does_assign (x := .const (.int .i64 (-1))) (v := .int .i64 (-1)) (by kernel_rfl) (by kernel_rfl)) <|
              .nil _ _) ?_
          refine aw_weak (weak_b (T := [(2, .pointer (some ⟨1, 0, none⟩)), (3, .pointer (some ⟨2, 0, none⟩)), (4, .int .i64 (-1)), (5, .bool ((ax == bx) && ((ay == b_y) && true))), (9, .bool (decide (ay < b_y)))]) (L := [(1, ⟨[.int .i64 ax, .int .i64 ay], 24, true, 2⟩), (2, ⟨[.int .i64 bx, .int .i64 b_y], 24, true, 2⟩)]) (by kernel_rfl) (by kernel_rfl) (by kernel_rfl)) ?_
          refine aw_ret (by kernel_rfl) ?_
          refine block_ret ?_
          refine then_ret ?_
          exact end_ret (vs := [.int .i64 (-1)]) (by kernel_rfl) (show (.int .i64 (-1) : Value) = (.int .i64 (Sp.pcmp ax ay bx b_y)) from (congrArg (Value.int .i64) (show (-1) = (Sp.pcmp ax ay bx b_y) from by (rw [Sp.pcmp_form]; (repeat' split) <;> omega)))) trivial
        · have h4p : ¬ ((ay < b_y)) := by first | (simpa using h4) | (have h4q := h4; simp at h4q; omega) | (have h4q := bx2 h4; simp at h4q; omega)
          refine aw_skip (by kernel_rfl) ?_
          refine block_normal ?_
          refine then_normal ?_
          refine aw_plain_seq (r := sub (bodyOf Try.f34) [true, true, false]) (y := sub (bodyOf Try.f34) [true, true, true]) (id := 5) (ops := regOps (sub (bodyOf Try.f34) [true, true, false])) (by kernel_rfl) (by kernel_rfl) (by kernel_rfl) (by kernel_rfl) (
              .cons (d := some 4) (by kernel_rfl) (does_assign (x := .const (.int .i64 1)) (v := .int .i64 1) (by kernel_rfl) (by kernel_rfl)) <|
              .nil _ _) ?_
          refine aw_weak (weak_b (T := [(2, .pointer (some ⟨1, 0, none⟩)), (3, .pointer (some ⟨2, 0, none⟩)), (4, .int .i64 1), (5, .bool ((ax == bx) && ((ay == b_y) && true))), (9, .bool (decide (ay < b_y)))]) (L := [(1, ⟨[.int .i64 ax, .int .i64 ay], 24, true, 2⟩), (2, ⟨[.int .i64 bx, .int .i64 b_y], 24, true, 2⟩)]) (by kernel_rfl) (by kernel_rfl) (by kernel_rfl)) ?_
          refine aw_ret (by kernel_rfl) ?_
          exact end_ret (vs := [.int .i64 1]) (by kernel_rfl) (show (.int .i64 1 : Value) = (.int .i64 (Sp.pcmp ax ay bx b_y)) from (congrArg (Value.int .i64) (show 1 = (Sp.pcmp ax ay bx b_y) from by (rw [Sp.pcmp_form]; (repeat' split) <;> omega)))) trivial
      · have h3p : ¬ ((ax = bx)) := by first | (simpa using h3) | (have h3q := h3; simp at h3q; omega) | (have h3q := bx2 h3; simp at h3q; omega)
        refine aw_plain_seq (r := sub (bodyOf Try.f34) [true, false, true, true, true, false]) (y := sub (bodyOf Try.f34) [true, false, true, true, true, true]) (id := 3) (ops := regOps (sub (bodyOf Try.f34) [true, false, true, true, true, false])) (by kernel_rfl) (by kernel_rfl) (by kernel_rfl) (by kernel_rfl) (
            .cons (d := some 10) (by kernel_rfl) (does_fieldAddr (s := 24) (x := .tmp 2) (f := 0) (k := 1) (off := 0) (d := 0) (by kernel_rfl) (by kernel_rfl) (by kernel_rfl)) <|
            .cons (d := some 11) (by kernel_rfl) (does_load (t := 3) (x := .tmp 10) (k := 1) (off := 0) (b := ⟨[.int .i64 ax, .int .i64 ay], 24, true, 2⟩) (v := .int .i64 ax) (by kernel_rfl) (by kernel_rfl) (by kernel_rfl) (by kernel_rfl)) <|
            .cons (d := some 12) (by kernel_rfl) (does_fieldAddr (s := 24) (x := .tmp 3) (f := 0) (k := 2) (off := 0) (d := 0) (by kernel_rfl) (by kernel_rfl) (by kernel_rfl)) <|
            .cons (d := some 13) (by kernel_rfl) (does_load (t := 3) (x := .tmp 12) (k := 2) (off := 0) (b := ⟨[.int .i64 bx, .int .i64 b_y], 24, true, 2⟩) (v := .int .i64 bx) (by kernel_rfl) (by kernel_rfl) (by kernel_rfl) (by kernel_rfl)) <|
            .cons (d := some 14) (by kernel_rfl) (does_bool (b' := false) (does_pure (v := .bool (decide (ax < bx))) (by kernel_rfl) (fun w => by kernel_rfl) (by kernel_rfl)) (h2)) <|
            .cons (d := some 15) (by kernel_rfl) (does_move (x := .tmp 14) (v := .bool false) (by kernel_rfl) (by kernel_rfl)) <|
            .cons (d := some 16) (by kernel_rfl) (does_fieldAddr (s := 24) (x := .tmp 2) (f := 0) (k := 1) (off := 0) (d := 0) (by kernel_rfl) (by kernel_rfl) (by kernel_rfl)) <|
            .cons (d := some 17) (by kernel_rfl) (does_load (t := 3) (x := .tmp 16) (k := 1) (off := 0) (b := ⟨[.int .i64 ax, .int .i64 ay], 24, true, 2⟩) (v := .int .i64 ax) (by kernel_rfl) (by kernel_rfl) (by kernel_rfl) (by kernel_rfl)) <|
            .cons (d := some 18) (by kernel_rfl) (does_fieldAddr (s := 24) (x := .tmp 3) (f := 0) (k := 2) (off := 0) (d := 0) (by kernel_rfl) (by kernel_rfl) (by kernel_rfl)) <|
            .cons (d := some 19) (by kernel_rfl) (does_load (t := 3) (x := .tmp 18) (k := 2) (off := 0) (b := ⟨[.int .i64 bx, .int .i64 b_y], 24, true, 2⟩) (v := .int .i64 bx) (by kernel_rfl) (by kernel_rfl) (by kernel_rfl) (by kernel_rfl)) <|
            .cons (d := some 20) (by kernel_rfl) (does_bool (b' := false) (does_pure (v := .bool (ax == bx)) (by kernel_rfl) (fun w => by kernel_rfl) (by kernel_rfl)) (h3)) <|
            .cons (d := some 21) (by kernel_rfl) (does_move (x := .tmp 20) (v := .bool false) (by kernel_rfl) (by kernel_rfl)) <|
            .cons (d := some 22) (by kernel_rfl) (does_skipB (by kernel_rfl)) <|
            .cons (d := some 23) (by kernel_rfl) (does_skipB (by kernel_rfl)) <|
            .cons (d := some 24) (by kernel_rfl) (does_skipB (by kernel_rfl)) <|
            .cons (d := some 25) (by kernel_rfl) (does_skipB (by kernel_rfl)) <|
            .cons (d := some 26) (by kernel_rfl) (does_skipB (by kernel_rfl)) <|
            .cons (d := some 27) (by kernel_rfl) (does_pick (c := .tmp 21) (x := .tmp 26) (y := .const (.bool false)) (b := false) (v := .bool false) (by kernel_rfl) (by kernel_rfl) (by kernel_rfl)) <|
            .cons (d := some 28) (by kernel_rfl) (does_pick (c := .tmp 15) (x := .const (.bool true)) (y := .tmp 27) (b := false) (v := .bool false) (by kernel_rfl) (by kernel_rfl) (by kernel_rfl)) <|
            .cons (d := some 9) (by kernel_rfl) (does_assign (x := .tmp 28) (v := .bool false) (by kernel_rfl) (by kernel_rfl)) <|
            .nil _ _) ?_
        refine aw_weak (weak_b (T := [(2, .pointer (some ⟨1, 0, none⟩)), (3, .pointer (some ⟨2, 0, none⟩)), (4, .int .i64 0), (5, .bool ((ax == bx) && ((ay == b_y) && true))), (9, .bool false)]) (L := [(1, ⟨[.int .i64 ax, .int .i64 ay], 24, true, 2⟩), (2, ⟨[.int .i64 bx, .int .i64 b_y], 24, true, 2⟩)]) (by kernel_rfl) (by kernel_rfl) (by kernel_rfl)) ?_
        refine aw_false (o := .tmp 9) (x := sub (bodyOf Try.f34) [true, false, true, true, true, true, false]) (y := sub (bodyOf Try.f34) [true, false, true, true, true, true, true]) (by kernel_rfl) (by kernel_rfl) ?_
        refine aw_skip (by kernel_rfl) ?_
        refine block_normal ?_
        refine then_normal ?_
        refine aw_plain_seq (r := sub (bodyOf Try.f34) [true, true, false]) (y := sub (bodyOf Try.f34) [true, true, true]) (id := 5) (ops := regOps (sub (bodyOf Try.f34) [true, true, false])) (by kernel_rfl) (by kernel_rfl) (by kernel_rfl) (by kernel_rfl) (
            .cons (d := some 4) (by kernel_rfl) (does_assign (x := .const (.int .i64 1)) (v := .int .i64 1) (by kernel_rfl) (by kernel_rfl)) <|
            .nil _ _) ?_
        refine aw_weak (weak_b (T := [(2, .pointer (some ⟨1, 0, none⟩)), (3, .pointer (some ⟨2, 0, none⟩)), (4, .int .i64 1), (5, .bool ((ax == bx) && ((ay == b_y) && true))), (9, .bool false)]) (L := [(1, ⟨[.int .i64 ax, .int .i64 ay], 24, true, 2⟩), (2, ⟨[.int .i64 bx, .int .i64 b_y], 24, true, 2⟩)]) (by kernel_rfl) (by kernel_rfl) (by kernel_rfl)) ?_
        refine aw_ret (by kernel_rfl) ?_
        exact end_ret (vs := [.int .i64 1]) (by kernel_rfl) (show (.int .i64 1 : Value) = (.int .i64 (Sp.pcmp ax ay bx b_y)) from (congrArg (Value.int .i64) (show 1 = (Sp.pcmp ax ay bx b_y) from by (rw [Sp.pcmp_form]; (repeat' split) <;> omega)))) trivial

theorem rcross_ok (ax ay bx b_y cx cy : Int) :
    AC Try.prog 36 0 ([.agg #[.int .i64 ax, .int .i64 ay], .agg #[.int .i64 bx, .int .i64 b_y], .agg #[.int .i64 cx, .int .i64 cy]]) [] (.int .i64 (Sp.crs (Sp.lim 1048576 ax) (Sp.lim 1048576 ay) (Sp.lim 1048576 bx) (Sp.lim 1048576 b_y) (Sp.lim 1048576 cx) (Sp.lim 1048576 cy))) [] := by
  have qax := Sp.lim_bd (m := 1048576) (by decide) ax; have qay := Sp.lim_bd (m := 1048576) (by decide) ay; have qbx := Sp.lim_bd (m := 1048576) (by decide) bx; have qb_y := Sp.lim_bd (m := 1048576) (by decide) b_y; have qcx := Sp.lim_bd (m := 1048576) (by decide) cx; have qcy := Sp.lim_bd (m := 1048576) (by decide) cy; have p0 := Sp.mul_bd (a := (Sp.lim 1048576 ax)) (b := (Sp.lim 1048576 b_y)) (A := 1048576) (B := 1048576) (by omega) (by omega) (by omega) (by omega); have p1 := Sp.mul_bd (a := (Sp.lim 1048576 ay)) (b := (Sp.lim 1048576 bx)) (A := 1048576) (B := 1048576) (by omega) (by omega) (by omega) (by omega); have p2 := Sp.mul_bd (a := (Sp.lim 1048576 bx)) (b := (Sp.lim 1048576 cy)) (A := 1048576) (B := 1048576) (by omega) (by omega) (by omega) (by omega); have p3 := Sp.mul_bd (a := (Sp.lim 1048576 b_y)) (b := (Sp.lim 1048576 cx)) (A := 1048576) (B := 1048576) (by omega) (by omega) (by omega) (by omega); have p4 := Sp.mul_bd (a := (Sp.lim 1048576 cx)) (b := (Sp.lim 1048576 ay)) (A := 1048576) (B := 1048576) (by omega) (by omega) (by omega) (by omega); have p5 := Sp.mul_bd (a := (Sp.lim 1048576 cy)) (b := (Sp.lim 1048576 ax)) (A := 1048576) (B := 1048576) (by omega) (by omega) (by omega) (by omega)
  refine ac_intro (fn := Try.f36) (c := bodyOf Try.f36) Try.func36 (by kernel_rfl) (by kernel_rfl) (by kernel_rfl) ?_
  intro w0 W pin
  refine aw_sub ?_
  refine aw_plain_seq (r := sub (bodyOf Try.f36) [false]) (y := sub (bodyOf Try.f36) [true]) (id := 0) (ops := regOps (sub (bodyOf Try.f36) [false])) (by kernel_rfl) (by kernel_rfl) (by kernel_rfl) (by kernel_rfl) (
      .cons (d := some 3) (by kernel_rfl) (does_box (t := 24) (x := .tmp 0) (k := 1) (v := .agg #[.int .i64 ax, .int .i64 ay]) (cells := [.int .i64 ax, .int .i64 ay]) (by kernel_rfl) (by kernel_rfl) (by kernel_rfl) (by kernel_rfl)) <|
      .cons (d := some 4) (by kernel_rfl) (does_box (t := 24) (x := .tmp 1) (k := 2) (v := .agg #[.int .i64 bx, .int .i64 b_y]) (cells := [.int .i64 bx, .int .i64 b_y]) (by kernel_rfl) (by kernel_rfl) (by kernel_rfl) (by kernel_rfl)) <|
      .cons (d := some 5) (by kernel_rfl) (does_box (t := 24) (x := .tmp 2) (k := 3) (v := .agg #[.int .i64 cx, .int .i64 cy]) (cells := [.int .i64 cx, .int .i64 cy]) (by kernel_rfl) (by kernel_rfl) (by kernel_rfl) (by kernel_rfl)) <|
      .cons (d := some 6) (by kernel_rfl) (does_assign (x := .const (.int .i64 0)) (v := .int .i64 0) (by kernel_rfl) (by kernel_rfl)) <|
      .nil _ _) ?_
  refine aw_weak (weak_b (T := [(3, .pointer (some ⟨1, 0, none⟩)), (4, .pointer (some ⟨2, 0, none⟩)), (5, .pointer (some ⟨3, 0, none⟩)), (6, .int .i64 0)]) (L := [(1, ⟨[.int .i64 ax, .int .i64 ay], 24, true, 2⟩), (2, ⟨[.int .i64 bx, .int .i64 b_y], 24, true, 2⟩), (3, ⟨[.int .i64 cx, .int .i64 cy], 24, true, 2⟩)]) (by kernel_rfl) (by kernel_rfl) (by kernel_rfl)) ?_
  refine aw_draws_seq (r := sub (bodyOf Try.f36) [true, false]) (y := sub (bodyOf Try.f36) [true, true]) (id := 1) (ops := regOps (sub (bodyOf Try.f36) [true, false])) [[], [0], [], [0, 1, 2], [], [0, 1, 2, 3, 4], [0, 1, 2, 3, 4, 5], [0, 1, 2, 3, 4, 5, 6], [0, 1, 2, 3, 4, 5, 6, 7]] (by kernel_rfl) (by kernel_rfl) (by kernel_rfl) (by kernel_rfl) (by kernel_rfl) (by kernel_rfl) (
      .cons (d := some 7) (by kernel_rfl) (does_load (t := 24) (x := .tmp 3) (k := 1) (off := 0) (b := ⟨[.int .i64 ax, .int .i64 ay], 24, true, 2⟩) (v := .agg #[.int .i64 ax, .int .i64 ay]) (by kernel_rfl) (by kernel_rfl) (by kernel_rfl) (by kernel_rfl)) <|
      .cons (d := some 8) (by kernel_rfl) (does_call0 (x := .func 16) (ars := #[.tmp 7]) (ats := #[24]) (g := 16) (vs := [.agg #[.int .i64 ax, .int .i64 ay]]) (v := .agg #[.int .i64 (Sp.lim 1048576 ax), .int .i64 (Sp.lim 1048576 ay)]) (by kernel_rfl) (by kernel_rfl) (by kernel_rfl) (by kernel_rfl) (rvalid_ok ax ay) (by kernel_rfl) (by kernel_rfl)) <|
      .cons (d := some 9) (by kernel_rfl) (does_load (t := 24) (x := .tmp 4) (k := 2) (off := 0) (b := ⟨[.int .i64 bx, .int .i64 b_y], 24, true, 2⟩) (v := .agg #[.int .i64 bx, .int .i64 b_y]) (by kernel_rfl) (by kernel_rfl) (by kernel_rfl) (by kernel_rfl)) <|
      .cons (d := some 10) (by kernel_rfl) (does_call0 (x := .func 16) (ars := #[.tmp 9]) (ats := #[24]) (g := 16) (vs := [.agg #[.int .i64 bx, .int .i64 b_y]]) (v := .agg #[.int .i64 (Sp.lim 1048576 bx), .int .i64 (Sp.lim 1048576 b_y)]) (by kernel_rfl) (by kernel_rfl) (by kernel_rfl) (by kernel_rfl) (rvalid_ok bx b_y) (by kernel_rfl) (by kernel_rfl)) <|
      .cons (d := some 11) (by kernel_rfl) (does_load (t := 24) (x := .tmp 5) (k := 3) (off := 0) (b := ⟨[.int .i64 cx, .int .i64 cy], 24, true, 2⟩) (v := .agg #[.int .i64 cx, .int .i64 cy]) (by kernel_rfl) (by kernel_rfl) (by kernel_rfl) (by kernel_rfl)) <|
      .cons (d := some 12) (by kernel_rfl) (does_call0 (x := .func 16) (ars := #[.tmp 11]) (ats := #[24]) (g := 16) (vs := [.agg #[.int .i64 cx, .int .i64 cy]]) (v := .agg #[.int .i64 (Sp.lim 1048576 cx), .int .i64 (Sp.lim 1048576 cy)]) (by kernel_rfl) (by kernel_rfl) (by kernel_rfl) (by kernel_rfl) (rvalid_ok cx cy) (by kernel_rfl) (by kernel_rfl)) <|
      .cons (d := none) (by kernel_rfl) (does_store (t := 24) (x := .tmp 3) (y := .tmp 8) (k := 1) (off := 0) (b := ⟨[.int .i64 ax, .int .i64 ay], 24, true, 2⟩) (v := .agg #[.int .i64 (Sp.lim 1048576 ax), .int .i64 (Sp.lim 1048576 ay)]) (cells := [.int .i64 (Sp.lim 1048576 ax), .int .i64 (Sp.lim 1048576 ay)]) (by kernel_rfl) (by kernel_rfl) (by kernel_rfl) (by kernel_rfl) rfl (by kernel_rfl) (by kernel_rfl) (by kernel_rfl) (by kernel_rfl)) <|
      .cons (d := none) (by kernel_rfl) (does_store (t := 24) (x := .tmp 4) (y := .tmp 10) (k := 2) (off := 0) (b := ⟨[.int .i64 bx, .int .i64 b_y], 24, true, 2⟩) (v := .agg #[.int .i64 (Sp.lim 1048576 bx), .int .i64 (Sp.lim 1048576 b_y)]) (cells := [.int .i64 (Sp.lim 1048576 bx), .int .i64 (Sp.lim 1048576 b_y)]) (by kernel_rfl) (by kernel_rfl) (by kernel_rfl) (by kernel_rfl) rfl (by kernel_rfl) (by kernel_rfl) (by kernel_rfl) (by kernel_rfl)) <|
      .cons (d := none) (by kernel_rfl) (does_store (t := 24) (x := .tmp 5) (y := .tmp 12) (k := 3) (off := 0) (b := ⟨[.int .i64 cx, .int .i64 cy], 24, true, 2⟩) (v := .agg #[.int .i64 (Sp.lim 1048576 cx), .int .i64 (Sp.lim 1048576 cy)]) (cells := [.int .i64 (Sp.lim 1048576 cx), .int .i64 (Sp.lim 1048576 cy)]) (by kernel_rfl) (by kernel_rfl) (by kernel_rfl) (by kernel_rfl) rfl (by kernel_rfl) (by kernel_rfl) (by kernel_rfl) (by kernel_rfl)) <|
      .nil _ _) ?_
  refine aw_weak (weak_b (T := [(3, .pointer (some ⟨1, 0, none⟩)), (4, .pointer (some ⟨2, 0, none⟩)), (5, .pointer (some ⟨3, 0, none⟩)), (6, .int .i64 0)]) (L := [(1, ⟨[.int .i64 (Sp.lim 1048576 ax), .int .i64 (Sp.lim 1048576 ay)], 24, true, 2⟩), (2, ⟨[.int .i64 (Sp.lim 1048576 bx), .int .i64 (Sp.lim 1048576 b_y)], 24, true, 2⟩), (3, ⟨[.int .i64 (Sp.lim 1048576 cx), .int .i64 (Sp.lim 1048576 cy)], 24, true, 2⟩)]) (by kernel_rfl) (by kernel_rfl) (by kernel_rfl)) ?_
  refine aw_plain_seq (r := sub (bodyOf Try.f36) [true, true, false]) (y := sub (bodyOf Try.f36) [true, true, true]) (id := 2) (ops := regOps (sub (bodyOf Try.f36) [true, true, false])) (by kernel_rfl) (by kernel_rfl) (by kernel_rfl) (by kernel_rfl) (
      .cons (d := some 13) (by kernel_rfl) (does_fieldAddr (s := 24) (x := .tmp 3) (f := 0) (k := 1) (off := 0) (d := 0) (by kernel_rfl) (by kernel_rfl) (by kernel_rfl)) <|
      .cons (d := some 14) (by kernel_rfl) (does_load (t := 3) (x := .tmp 13) (k := 1) (off := 0) (b := ⟨[.int .i64 (Sp.lim 1048576 ax), .int .i64 (Sp.lim 1048576 ay)], 24, true, 2⟩) (v := .int .i64 (Sp.lim 1048576 ax)) (by kernel_rfl) (by kernel_rfl) (by kernel_rfl) (by kernel_rfl)) <|
      .cons (d := some 15) (by kernel_rfl) (does_fieldAddr (s := 24) (x := .tmp 4) (f := 1) (k := 2) (off := 0) (d := 1) (by kernel_rfl) (by kernel_rfl) (by kernel_rfl)) <|
      .cons (d := some 16) (by kernel_rfl) (does_load (t := 3) (x := .tmp 15) (k := 2) (off := 1) (b := ⟨[.int .i64 (Sp.lim 1048576 bx), .int .i64 (Sp.lim 1048576 b_y)], 24, true, 2⟩) (v := .int .i64 (Sp.lim 1048576 b_y)) (by kernel_rfl) (by kernel_rfl) (by kernel_rfl) (by kernel_rfl)) <|
      .cons (d := some 17) (by kernel_rfl) (does_int (n' := (Sp.lim 1048576 ax) * (Sp.lim 1048576 b_y)) (does_pure (v := .int .i64 (IntKind.wrap .i64 ((Sp.lim 1048576 ax) * (Sp.lim 1048576 b_y)))) (by kernel_rfl) (fun w => by kernel_rfl) (by kernel_rfl)) (wrap_i64 (by omega) (by omega))) <|
      .cons (d := some 18) (by kernel_rfl) (does_fieldAddr (s := 24) (x := .tmp 3) (f := 1) (k := 1) (off := 0) (d := 1) (by kernel_rfl) (by kernel_rfl) (by kernel_rfl)) <|
      .cons (d := some 19) (by kernel_rfl) (does_load (t := 3) (x := .tmp 18) (k := 1) (off := 1) (b := ⟨[.int .i64 (Sp.lim 1048576 ax), .int .i64 (Sp.lim 1048576 ay)], 24, true, 2⟩) (v := .int .i64 (Sp.lim 1048576 ay)) (by kernel_rfl) (by kernel_rfl) (by kernel_rfl) (by kernel_rfl)) <|
      .cons (d := some 20) (by kernel_rfl) (does_fieldAddr (s := 24) (x := .tmp 4) (f := 0) (k := 2) (off := 0) (d := 0) (by kernel_rfl) (by kernel_rfl) (by kernel_rfl)) <|
      .cons (d := some 21) (by kernel_rfl) (does_load (t := 3) (x := .tmp 20) (k := 2) (off := 0) (b := ⟨[.int .i64 (Sp.lim 1048576 bx), .int .i64 (Sp.lim 1048576 b_y)], 24, true, 2⟩) (v := .int .i64 (Sp.lim 1048576 bx)) (by kernel_rfl) (by kernel_rfl) (by kernel_rfl) (by kernel_rfl)) <|
      .cons (d := some 22) (by kernel_rfl) (does_int (n' := (Sp.lim 1048576 ay) * (Sp.lim 1048576 bx)) (does_pure (v := .int .i64 (IntKind.wrap .i64 ((Sp.lim 1048576 ay) * (Sp.lim 1048576 bx)))) (by kernel_rfl) (fun w => by kernel_rfl) (by kernel_rfl)) (wrap_i64 (by omega) (by omega))) <|
      .cons (d := some 23) (by kernel_rfl) (does_int (n' := ((Sp.lim 1048576 ax) * (Sp.lim 1048576 b_y)) - ((Sp.lim 1048576 ay) * (Sp.lim 1048576 bx))) (does_pure (v := .int .i64 (IntKind.wrap .i64 (((Sp.lim 1048576 ax) * (Sp.lim 1048576 b_y)) - ((Sp.lim 1048576 ay) * (Sp.lim 1048576 bx))))) (by kernel_rfl) (fun w => by kernel_rfl) (by kernel_rfl)) (wrap_i64 (by omega) (by omega))) <|
      .cons (d := some 24) (by kernel_rfl) (does_fieldAddr (s := 24) (x := .tmp 4) (f := 0) (k := 2) (off := 0) (d := 0) (by kernel_rfl) (by kernel_rfl) (by kernel_rfl)) <|
      .cons (d := some 25) (by kernel_rfl) (does_load (t := 3) (x := .tmp 24) (k := 2) (off := 0) (b := ⟨[.int .i64 (Sp.lim 1048576 bx), .int .i64 (Sp.lim 1048576 b_y)], 24, true, 2⟩) (v := .int .i64 (Sp.lim 1048576 bx)) (by kernel_rfl) (by kernel_rfl) (by kernel_rfl) (by kernel_rfl)) <|
      .cons (d := some 26) (by kernel_rfl) (does_fieldAddr (s := 24) (x := .tmp 5) (f := 1) (k := 3) (off := 0) (d := 1) (by kernel_rfl) (by kernel_rfl) (by kernel_rfl)) <|
      .cons (d := some 27) (by kernel_rfl) (does_load (t := 3) (x := .tmp 26) (k := 3) (off := 1) (b := ⟨[.int .i64 (Sp.lim 1048576 cx), .int .i64 (Sp.lim 1048576 cy)], 24, true, 2⟩) (v := .int .i64 (Sp.lim 1048576 cy)) (by kernel_rfl) (by kernel_rfl) (by kernel_rfl) (by kernel_rfl)) <|
      .cons (d := some 28) (by kernel_rfl) (does_int (n' := (Sp.lim 1048576 bx) * (Sp.lim 1048576 cy)) (does_pure (v := .int .i64 (IntKind.wrap .i64 ((Sp.lim 1048576 bx) * (Sp.lim 1048576 cy)))) (by kernel_rfl) (fun w => by kernel_rfl) (by kernel_rfl)) (wrap_i64 (by omega) (by omega))) <|
      .cons (d := some 29) (by kernel_rfl) (does_int (n' := (((Sp.lim 1048576 ax) * (Sp.lim 1048576 b_y)) - ((Sp.lim 1048576 ay) * (Sp.lim 1048576 bx))) + ((Sp.lim 1048576 bx) * (Sp.lim 1048576 cy))) (does_pure (v := .int .i64 (IntKind.wrap .i64 ((((Sp.lim 1048576 ax) * (Sp.lim 1048576 b_y)) - ((Sp.lim 1048576 ay) * (Sp.lim 1048576 bx))) + ((Sp.lim 1048576 bx) * (Sp.lim 1048576 cy))))) (by kernel_rfl) (fun w => by kernel_rfl) (by kernel_rfl)) (wrap_i64 (by omega) (by omega))) <|
      .cons (d := some 30) (by kernel_rfl) (does_fieldAddr (s := 24) (x := .tmp 4) (f := 1) (k := 2) (off := 0) (d := 1) (by kernel_rfl) (by kernel_rfl) (by kernel_rfl)) <|
      .cons (d := some 31) (by kernel_rfl) (does_load (t := 3) (x := .tmp 30) (k := 2) (off := 1) (b := ⟨[.int .i64 (Sp.lim 1048576 bx), .int .i64 (Sp.lim 1048576 b_y)], 24, true, 2⟩) (v := .int .i64 (Sp.lim 1048576 b_y)) (by kernel_rfl) (by kernel_rfl) (by kernel_rfl) (by kernel_rfl)) <|
      .cons (d := some 32) (by kernel_rfl) (does_fieldAddr (s := 24) (x := .tmp 5) (f := 0) (k := 3) (off := 0) (d := 0) (by kernel_rfl) (by kernel_rfl) (by kernel_rfl)) <|
      .cons (d := some 33) (by kernel_rfl) (does_load (t := 3) (x := .tmp 32) (k := 3) (off := 0) (b := ⟨[.int .i64 (Sp.lim 1048576 cx), .int .i64 (Sp.lim 1048576 cy)], 24, true, 2⟩) (v := .int .i64 (Sp.lim 1048576 cx)) (by kernel_rfl) (by kernel_rfl) (by kernel_rfl) (by kernel_rfl)) <|
      .cons (d := some 34) (by kernel_rfl) (does_int (n' := (Sp.lim 1048576 b_y) * (Sp.lim 1048576 cx)) (does_pure (v := .int .i64 (IntKind.wrap .i64 ((Sp.lim 1048576 b_y) * (Sp.lim 1048576 cx)))) (by kernel_rfl) (fun w => by kernel_rfl) (by kernel_rfl)) (wrap_i64 (by omega) (by omega))) <|
      .cons (d := some 35) (by kernel_rfl) (does_int (n' := ((((Sp.lim 1048576 ax) * (Sp.lim 1048576 b_y)) - ((Sp.lim 1048576 ay) * (Sp.lim 1048576 bx))) + ((Sp.lim 1048576 bx) * (Sp.lim 1048576 cy))) - ((Sp.lim 1048576 b_y) * (Sp.lim 1048576 cx))) (does_pure (v := .int .i64 (IntKind.wrap .i64 (((((Sp.lim 1048576 ax) * (Sp.lim 1048576 b_y)) - ((Sp.lim 1048576 ay) * (Sp.lim 1048576 bx))) + ((Sp.lim 1048576 bx) * (Sp.lim 1048576 cy))) - ((Sp.lim 1048576 b_y) * (Sp.lim 1048576 cx))))) (by kernel_rfl) (fun w => by kernel_rfl) (by kernel_rfl)) (wrap_i64 (by omega) (by omega))) <|
      .cons (d := some 36) (by kernel_rfl) (does_fieldAddr (s := 24) (x := .tmp 5) (f := 0) (k := 3) (off := 0) (d := 0) (by kernel_rfl) (by kernel_rfl) (by kernel_rfl)) <|
      .cons (d := some 37) (by kernel_rfl) (does_load (t := 3) (x := .tmp 36) (k := 3) (off := 0) (b := ⟨[.int .i64 (Sp.lim 1048576 cx), .int .i64 (Sp.lim 1048576 cy)], 24, true, 2⟩) (v := .int .i64 (Sp.lim 1048576 cx)) (by kernel_rfl) (by kernel_rfl) (by kernel_rfl) (by kernel_rfl)) <|
      .cons (d := some 38) (by kernel_rfl) (does_fieldAddr (s := 24) (x := .tmp 3) (f := 1) (k := 1) (off := 0) (d := 1) (by kernel_rfl) (by kernel_rfl) (by kernel_rfl)) <|
      .cons (d := some 39) (by kernel_rfl) (does_load (t := 3) (x := .tmp 38) (k := 1) (off := 1) (b := ⟨[.int .i64 (Sp.lim 1048576 ax), .int .i64 (Sp.lim 1048576 ay)], 24, true, 2⟩) (v := .int .i64 (Sp.lim 1048576 ay)) (by kernel_rfl) (by kernel_rfl) (by kernel_rfl) (by kernel_rfl)) <|
      .cons (d := some 40) (by kernel_rfl) (does_int (n' := (Sp.lim 1048576 cx) * (Sp.lim 1048576 ay)) (does_pure (v := .int .i64 (IntKind.wrap .i64 ((Sp.lim 1048576 cx) * (Sp.lim 1048576 ay)))) (by kernel_rfl) (fun w => by kernel_rfl) (by kernel_rfl)) (wrap_i64 (by omega) (by omega))) <|
      .cons (d := some 41) (by kernel_rfl) (does_int (n' := (((((Sp.lim 1048576 ax) * (Sp.lim 1048576 b_y)) - ((Sp.lim 1048576 ay) * (Sp.lim 1048576 bx))) + ((Sp.lim 1048576 bx) * (Sp.lim 1048576 cy))) - ((Sp.lim 1048576 b_y) * (Sp.lim 1048576 cx))) + ((Sp.lim 1048576 cx) * (Sp.lim 1048576 ay))) (does_pure (v := .int .i64 (IntKind.wrap .i64 ((((((Sp.lim 1048576 ax) * (Sp.lim 1048576 b_y)) - ((Sp.lim 1048576 ay) * (Sp.lim 1048576 bx))) + ((Sp.lim 1048576 bx) * (Sp.lim 1048576 cy))) - ((Sp.lim 1048576 b_y) * (Sp.lim 1048576 cx))) + ((Sp.lim 1048576 cx) * (Sp.lim 1048576 ay))))) (by kernel_rfl) (fun w => by kernel_rfl) (by kernel_rfl)) (wrap_i64 (by omega) (by omega))) <|
      .cons (d := some 42) (by kernel_rfl) (does_fieldAddr (s := 24) (x := .tmp 5) (f := 1) (k := 3) (off := 0) (d := 1) (by kernel_rfl) (by kernel_rfl) (by kernel_rfl)) <|
      .cons (d := some 43) (by kernel_rfl) (does_load (t := 3) (x := .tmp 42) (k := 3) (off := 1) (b := ⟨[.int .i64 (Sp.lim 1048576 cx), .int .i64 (Sp.lim 1048576 cy)], 24, true, 2⟩) (v := .int .i64 (Sp.lim 1048576 cy)) (by kernel_rfl) (by kernel_rfl) (by kernel_rfl) (by kernel_rfl)) <|
      .cons (d := some 44) (by kernel_rfl) (does_fieldAddr (s := 24) (x := .tmp 3) (f := 0) (k := 1) (off := 0) (d := 0) (by kernel_rfl) (by kernel_rfl) (by kernel_rfl)) <|
      .cons (d := some 45) (by kernel_rfl) (does_load (t := 3) (x := .tmp 44) (k := 1) (off := 0) (b := ⟨[.int .i64 (Sp.lim 1048576 ax), .int .i64 (Sp.lim 1048576 ay)], 24, true, 2⟩) (v := .int .i64 (Sp.lim 1048576 ax)) (by kernel_rfl) (by kernel_rfl) (by kernel_rfl) (by kernel_rfl)) <|
      .cons (d := some 46) (by kernel_rfl) (does_int (n' := (Sp.lim 1048576 cy) * (Sp.lim 1048576 ax)) (does_pure (v := .int .i64 (IntKind.wrap .i64 ((Sp.lim 1048576 cy) * (Sp.lim 1048576 ax)))) (by kernel_rfl) (fun w => by kernel_rfl) (by kernel_rfl)) (wrap_i64 (by omega) (by omega))) <|
      .cons (d := some 47) (by kernel_rfl) (does_int (n' := ((((((Sp.lim 1048576 ax) * (Sp.lim 1048576 b_y)) - ((Sp.lim 1048576 ay) * (Sp.lim 1048576 bx))) + ((Sp.lim 1048576 bx) * (Sp.lim 1048576 cy))) - ((Sp.lim 1048576 b_y) * (Sp.lim 1048576 cx))) + ((Sp.lim 1048576 cx) * (Sp.lim 1048576 ay))) - ((Sp.lim 1048576 cy) * (Sp.lim 1048576 ax))) (does_pure (v := .int .i64 (IntKind.wrap .i64 (((((((Sp.lim 1048576 ax) * (Sp.lim 1048576 b_y)) - ((Sp.lim 1048576 ay) * (Sp.lim 1048576 bx))) + ((Sp.lim 1048576 bx) * (Sp.lim 1048576 cy))) - ((Sp.lim 1048576 b_y) * (Sp.lim 1048576 cx))) + ((Sp.lim 1048576 cx) * (Sp.lim 1048576 ay))) - ((Sp.lim 1048576 cy) * (Sp.lim 1048576 ax))))) (by kernel_rfl) (fun w => by kernel_rfl) (by kernel_rfl)) (wrap_i64 (by omega) (by omega))) <|
      .cons (d := some 6) (by kernel_rfl) (does_assign (x := .tmp 47) (v := .int .i64 (((((((Sp.lim 1048576 ax) * (Sp.lim 1048576 b_y)) - ((Sp.lim 1048576 ay) * (Sp.lim 1048576 bx))) + ((Sp.lim 1048576 bx) * (Sp.lim 1048576 cy))) - ((Sp.lim 1048576 b_y) * (Sp.lim 1048576 cx))) + ((Sp.lim 1048576 cx) * (Sp.lim 1048576 ay))) - ((Sp.lim 1048576 cy) * (Sp.lim 1048576 ax)))) (by kernel_rfl) (by kernel_rfl)) <|
      .nil _ _) ?_
  refine aw_weak (weak_b (T := [(3, .pointer (some ⟨1, 0, none⟩)), (4, .pointer (some ⟨2, 0, none⟩)), (5, .pointer (some ⟨3, 0, none⟩)), (6, .int .i64 (((((((Sp.lim 1048576 ax) * (Sp.lim 1048576 b_y)) - ((Sp.lim 1048576 ay) * (Sp.lim 1048576 bx))) + ((Sp.lim 1048576 bx) * (Sp.lim 1048576 cy))) - ((Sp.lim 1048576 b_y) * (Sp.lim 1048576 cx))) + ((Sp.lim 1048576 cx) * (Sp.lim 1048576 ay))) - ((Sp.lim 1048576 cy) * (Sp.lim 1048576 ax))))]) (L := [(1, ⟨[.int .i64 (Sp.lim 1048576 ax), .int .i64 (Sp.lim 1048576 ay)], 24, true, 2⟩), (2, ⟨[.int .i64 (Sp.lim 1048576 bx), .int .i64 (Sp.lim 1048576 b_y)], 24, true, 2⟩), (3, ⟨[.int .i64 (Sp.lim 1048576 cx), .int .i64 (Sp.lim 1048576 cy)], 24, true, 2⟩)]) (by kernel_rfl) (by kernel_rfl) (by kernel_rfl)) ?_
  refine aw_ret (by kernel_rfl) ?_
  exact end_ret (vs := [.int .i64 (((((((Sp.lim 1048576 ax) * (Sp.lim 1048576 b_y)) - ((Sp.lim 1048576 ay) * (Sp.lim 1048576 bx))) + ((Sp.lim 1048576 bx) * (Sp.lim 1048576 cy))) - ((Sp.lim 1048576 b_y) * (Sp.lim 1048576 cx))) + ((Sp.lim 1048576 cx) * (Sp.lim 1048576 ay))) - ((Sp.lim 1048576 cy) * (Sp.lim 1048576 ax)))]) (by kernel_rfl) (show (.int .i64 (((((((Sp.lim 1048576 ax) * (Sp.lim 1048576 b_y)) - ((Sp.lim 1048576 ay) * (Sp.lim 1048576 bx))) + ((Sp.lim 1048576 bx) * (Sp.lim 1048576 cy))) - ((Sp.lim 1048576 b_y) * (Sp.lim 1048576 cx))) + ((Sp.lim 1048576 cx) * (Sp.lim 1048576 ay))) - ((Sp.lim 1048576 cy) * (Sp.lim 1048576 ax))) : Value) = (.int .i64 (Sp.crs (Sp.lim 1048576 ax) (Sp.lim 1048576 ay) (Sp.lim 1048576 bx) (Sp.lim 1048576 b_y) (Sp.lim 1048576 cx) (Sp.lim 1048576 cy))) from (congrArg (Value.int .i64) (show (((((((Sp.lim 1048576 ax) * (Sp.lim 1048576 b_y)) - ((Sp.lim 1048576 ay) * (Sp.lim 1048576 bx))) + ((Sp.lim 1048576 bx) * (Sp.lim 1048576 cy))) - ((Sp.lim 1048576 b_y) * (Sp.lim 1048576 cx))) + ((Sp.lim 1048576 cx) * (Sp.lim 1048576 ay))) - ((Sp.lim 1048576 cy) * (Sp.lim 1048576 ax))) = (Sp.crs (Sp.lim 1048576 ax) (Sp.lim 1048576 ay) (Sp.lim 1048576 bx) (Sp.lim 1048576 b_y) (Sp.lim 1048576 cx) (Sp.lim 1048576 cy)) from by exact Sp.crs_shoe _ _ _ _ _ _))) trivial

theorem rsign_ok (x : Int) :
    AC Try.prog 93 0 ([.int .i64 x]) [] (.int .i64 (Sp.sgn x)) [] := by
  refine ac_intro (fn := Try.f93) (c := bodyOf Try.f93) Try.func93 (by kernel_rfl) (by kernel_rfl) (by kernel_rfl) ?_
  intro w0 W pin
  refine aw_sub ?_
  refine aw_plain_seq (r := sub (bodyOf Try.f93) [false]) (y := sub (bodyOf Try.f93) [true]) (id := 0) (ops := regOps (sub (bodyOf Try.f93) [false])) (by kernel_rfl) (by kernel_rfl) (by kernel_rfl) (by kernel_rfl) (
      .cons (d := some 2) (by kernel_rfl) (does_assign (x := .const (.int .i64 0)) (v := .int .i64 0) (by kernel_rfl) (by kernel_rfl)) <|
      .nil _ _) ?_
  refine aw_weak (weak_b (T := [(0, .int .i64 x), (2, .int .i64 0)]) (L := []) (by kernel_rfl) (by kernel_rfl) (by kernel_rfl)) ?_
  refine aw_seq (x := sub (bodyOf Try.f93) [true, false]) (y := sub (bodyOf Try.f93) [true, true]) (by kernel_rfl) ?_
  refine aw_block (id := 0) (x := sub (bodyOf Try.f93) [true, false, true]) (by kernel_rfl) ?_
  refine aw_plain_seq (r := sub (bodyOf Try.f93) [true, false, true, false]) (y := sub (bodyOf Try.f93) [true, false, true, true]) (id := 1) (ops := regOps (sub (bodyOf Try.f93) [true, false, true, false])) (by kernel_rfl) (by kernel_rfl) (by kernel_rfl) (by kernel_rfl) (
      .cons (d := some 4) (by kernel_rfl) (does_move (x := .tmp 0) (v := .int .i64 x) (by kernel_rfl) (by kernel_rfl)) <|
      .cons (d := some 5) (by kernel_rfl) (does_pure (v := .bool (decide (x < 0))) (by kernel_rfl) (fun w => by kernel_rfl) (by kernel_rfl)) <|
      .cons (d := some 3) (by kernel_rfl) (does_assign (x := .tmp 5) (v := .bool (decide (x < 0))) (by kernel_rfl) (by kernel_rfl)) <|
      .nil _ _) ?_
  refine aw_weak (weak_b (T := [(0, .int .i64 x), (2, .int .i64 0), (3, .bool (decide (x < 0)))]) (L := []) (by kernel_rfl) (by kernel_rfl) (by kernel_rfl)) ?_
  refine aw_cond (o := .tmp 3) (b := decide (x < 0)) (x := sub (bodyOf Try.f93) [true, false, true, true, false]) (y := sub (bodyOf Try.f93) [true, false, true, true, true]) (by kernel_rfl) (by kernel_rfl) (fun h1 => ?_) (fun h1 => ?_)
  · have h1p : ((x < 0)) := by first | (simpa using h1) | (have h1q := h1; simp at h1q; omega) | (have h1q := bx1 h1; simp at h1q; omega)
    refine aw_plain_seq (r := sub (bodyOf Try.f93) [true, false, true, true, false, false]) (y := sub (bodyOf Try.f93) [true, false, true, true, false, true]) (id := 2) (ops := regOps (sub (bodyOf Try.f93) [true, false, true, true, false, false])) (by kernel_rfl) (by kernel_rfl) (by kernel_rfl) (by kernel_rfl) (
        .cons (d := some 2) (by kernel_rfl) (does_assign (x := .const (.int .i64 (-1))) (v := .int .i64 (-1)) (by kernel_rfl) (by kernel_rfl)) <|
        .nil _ _) ?_
    refine aw_weak (weak_b (T := [(0, .int .i64 x), (2, .int .i64 (-1)), (3, .bool (decide (x < 0)))]) (L := []) (by kernel_rfl) (by kernel_rfl) (by kernel_rfl)) ?_
    refine aw_ret (by kernel_rfl) ?_
    refine block_ret ?_
    refine then_ret ?_
    exact end_ret (vs := [.int .i64 (-1)]) (by kernel_rfl) (show (.int .i64 (-1) : Value) = (.int .i64 (Sp.sgn x)) from (congrArg (Value.int .i64) (show (-1) = (Sp.sgn x) from by (first | rfl | (simp only [Sp.lim, Sp.cmp, Sp.sgn]; (repeat' split) <;> omega))))) trivial
  · have h1p : ¬ ((x < 0)) := by first | (simpa using h1) | (have h1q := h1; simp at h1q; omega) | (have h1q := bx2 h1; simp at h1q; omega)
    refine aw_plain_seq (r := sub (bodyOf Try.f93) [true, false, true, true, true, false]) (y := sub (bodyOf Try.f93) [true, false, true, true, true, true]) (id := 3) (ops := regOps (sub (bodyOf Try.f93) [true, false, true, true, true, false])) (by kernel_rfl) (by kernel_rfl) (by kernel_rfl) (by kernel_rfl) (
        .cons (d := some 7) (by kernel_rfl) (does_move (x := .tmp 0) (v := .int .i64 x) (by kernel_rfl) (by kernel_rfl)) <|
        .cons (d := some 8) (by kernel_rfl) (does_pure (v := .bool (decide (x > 0))) (by kernel_rfl) (fun w => by kernel_rfl) (by kernel_rfl)) <|
        .cons (d := some 6) (by kernel_rfl) (does_assign (x := .tmp 8) (v := .bool (decide (x > 0))) (by kernel_rfl) (by kernel_rfl)) <|
        .nil _ _) ?_
    refine aw_weak (weak_b (T := [(0, .int .i64 x), (2, .int .i64 0), (3, .bool (decide (x < 0))), (6, .bool (decide (x > 0)))]) (L := []) (by kernel_rfl) (by kernel_rfl) (by kernel_rfl)) ?_
    refine aw_cond (o := .tmp 6) (b := decide (x > 0)) (x := sub (bodyOf Try.f93) [true, false, true, true, true, true, false]) (y := sub (bodyOf Try.f93) [true, false, true, true, true, true, true]) (by kernel_rfl) (by kernel_rfl) (fun h2 => ?_) (fun h2 => ?_)
    · have h2p : ((x > 0)) := by first | (simpa using h2) | (have h2q := h2; simp at h2q; omega) | (have h2q := bx1 h2; simp at h2q; omega)
      refine aw_plain_seq (r := sub (bodyOf Try.f93) [true, false, true, true, true, true, false, false]) (y := sub (bodyOf Try.f93) [true, false, true, true, true, true, false, true]) (id := 4) (ops := regOps (sub (bodyOf Try.f93) [true, false, true, true, true, true, false, false])) (by kernel_rfl) (by kernel_rfl) (by kernel_rfl) (by kernel_rfl) (
          .cons (d := some 2) (by kernel_rfl) (does_assign (x := .const (.int .i64 1)) (v := .int .i64 1) (by kernel_rfl) (by kernel_rfl)) <|
          .nil _ _) ?_
      refine aw_weak (weak_b (T := [(0, .int .i64 x), (2, .int .i64 1), (3, .bool (decide (x < 0))), (6, .bool (decide (x > 0)))]) (L := []) (by kernel_rfl) (by kernel_rfl) (by kernel_rfl)) ?_
      refine aw_ret (by kernel_rfl) ?_
      refine block_ret ?_
      refine then_ret ?_
      exact end_ret (vs := [.int .i64 1]) (by kernel_rfl) (show (.int .i64 1 : Value) = (.int .i64 (Sp.sgn x)) from (congrArg (Value.int .i64) (show 1 = (Sp.sgn x) from by (first | rfl | (simp only [Sp.lim, Sp.cmp, Sp.sgn]; (repeat' split) <;> omega))))) trivial
    · have h2p : ¬ ((x > 0)) := by first | (simpa using h2) | (have h2q := h2; simp at h2q; omega) | (have h2q := bx2 h2; simp at h2q; omega)
      refine aw_skip (by kernel_rfl) ?_
      refine block_normal ?_
      refine then_normal ?_
      refine aw_plain_seq (r := sub (bodyOf Try.f93) [true, true, false]) (y := sub (bodyOf Try.f93) [true, true, true]) (id := 5) (ops := regOps (sub (bodyOf Try.f93) [true, true, false])) (by kernel_rfl) (by kernel_rfl) (by kernel_rfl) (by kernel_rfl) (
          .cons (d := some 2) (by kernel_rfl) (does_assign (x := .const (.int .i64 0)) (v := .int .i64 0) (by kernel_rfl) (by kernel_rfl)) <|
          .nil _ _) ?_
      refine aw_weak (weak_b (T := [(0, .int .i64 x), (2, .int .i64 0), (3, .bool (decide (x < 0))), (6, .bool (decide (x > 0)))]) (L := []) (by kernel_rfl) (by kernel_rfl) (by kernel_rfl)) ?_
      refine aw_ret (by kernel_rfl) ?_
      exact end_ret (vs := [.int .i64 0]) (by kernel_rfl) (show (.int .i64 0 : Value) = (.int .i64 (Sp.sgn x)) from (congrArg (Value.int .i64) (show 0 = (Sp.sgn x) from by (first | rfl | (simp only [Sp.lim, Sp.cmp, Sp.sgn]; (repeat' split) <;> omega))))) trivial

theorem terrlaw1_sign_ok (x : Int) :
    AC Try.prog 40 0 ([.int .i64 x]) [] (.int .i64 (Sp.cmp x 0)) [] := by
  refine ac_intro (fn := Try.f40) (c := bodyOf Try.f40) Try.func40 (by kernel_rfl) (by kernel_rfl) (by kernel_rfl) ?_
  intro w0 W pin
  refine aw_sub ?_
  refine aw_plain_seq (r := sub (bodyOf Try.f40) [false]) (y := sub (bodyOf Try.f40) [true]) (id := 0) (ops := regOps (sub (bodyOf Try.f40) [false])) (by kernel_rfl) (by kernel_rfl) (by kernel_rfl) (by kernel_rfl) (
      .cons (d := some 2) (by kernel_rfl) (does_assign (x := .const (.int .i64 0)) (v := .int .i64 0) (by kernel_rfl) (by kernel_rfl)) <|
      .nil _ _) ?_
  refine aw_weak (weak_b (T := [(0, .int .i64 x), (2, .int .i64 0)]) (L := []) (by kernel_rfl) (by kernel_rfl) (by kernel_rfl)) ?_
  refine aw_plain_seq (r := sub (bodyOf Try.f40) [true, false]) (y := sub (bodyOf Try.f40) [true, true]) (id := 1) (ops := regOps (sub (bodyOf Try.f40) [true, false])) (by kernel_rfl) (by kernel_rfl) (by kernel_rfl) (by kernel_rfl) (
      .cons (d := some 3) (by kernel_rfl) (does_move (x := .tmp 0) (v := .int .i64 x) (by kernel_rfl) (by kernel_rfl)) <|
      .cons (d := some 4) (by kernel_rfl) (does_pure (v := .int .i64 (if 1 < x then 1 else x)) (by kernel_rfl) (fun w => by kernel_rfl) (by kernel_rfl)) <|
      .cons (d := some 5) (by kernel_rfl) (does_pure (v := .int .i64 (if (if 1 < x then 1 else x) > (-1) then (if 1 < x then 1 else x) else (-1))) (by kernel_rfl) (fun w => by kernel_rfl) (by kernel_rfl)) <|
      .cons (d := some 2) (by kernel_rfl) (does_assign (x := .tmp 5) (v := .int .i64 (if (if 1 < x then 1 else x) > (-1) then (if 1 < x then 1 else x) else (-1))) (by kernel_rfl) (by kernel_rfl)) <|
      .nil _ _) ?_
  refine aw_weak (weak_b (T := [(2, .int .i64 (if (if 1 < x then 1 else x) > (-1) then (if 1 < x then 1 else x) else (-1)))]) (L := []) (by kernel_rfl) (by kernel_rfl) (by kernel_rfl)) ?_
  refine aw_ret (by kernel_rfl) ?_
  exact end_ret (vs := [.int .i64 (if (if 1 < x then 1 else x) > (-1) then (if 1 < x then 1 else x) else (-1))]) (by kernel_rfl) (show (.int .i64 (if (if 1 < x then 1 else x) > (-1) then (if 1 < x then 1 else x) else (-1)) : Value) = (.int .i64 (Sp.cmp x 0)) from (congrArg (Value.int .i64) (show (if (if 1 < x then 1 else x) > (-1) then (if 1 < x then 1 else x) else (-1)) = (Sp.cmp x 0) from by (first | rfl | (simp only [Sp.lim, Sp.cmp, Sp.sgn]; (repeat' split) <;> omega))))) trivial

theorem rfar_ok (ax ay bx b_y : Int) :
    AC Try.prog 42 0 ([.agg #[.int .i64 ax, .int .i64 ay], .agg #[.int .i64 bx, .int .i64 b_y]]) [] (.int .i64 (Sp.dot (Sp.lim 1048576 ax) (Sp.lim 1048576 ay) (Sp.lim 1048576 bx) (Sp.lim 1048576 b_y) (Sp.lim 1048576 bx) (Sp.lim 1048576 b_y))) [] := by
  have qax := Sp.lim_bd (m := 1048576) (by decide) ax; have qay := Sp.lim_bd (m := 1048576) (by decide) ay; have qbx := Sp.lim_bd (m := 1048576) (by decide) bx; have qb_y := Sp.lim_bd (m := 1048576) (by decide) b_y; have p0 := Sp.mul_bd (a := ((Sp.lim 1048576 ax) - (Sp.lim 1048576 bx))) (b := ((Sp.lim 1048576 ax) - (Sp.lim 1048576 bx))) (A := 2097152) (B := 2097152) (by omega) (by omega) (by omega) (by omega); have p1 := Sp.mul_bd (a := ((Sp.lim 1048576 ay) - (Sp.lim 1048576 b_y))) (b := ((Sp.lim 1048576 ay) - (Sp.lim 1048576 b_y))) (A := 2097152) (B := 2097152) (by omega) (by omega) (by omega) (by omega)
  refine ac_intro (fn := Try.f42) (c := bodyOf Try.f42) Try.func42 (by kernel_rfl) (by kernel_rfl) (by kernel_rfl) ?_
  intro w0 W pin
  refine aw_sub ?_
  refine aw_plain_seq (r := sub (bodyOf Try.f42) [false]) (y := sub (bodyOf Try.f42) [true]) (id := 0) (ops := regOps (sub (bodyOf Try.f42) [false])) (by kernel_rfl) (by kernel_rfl) (by kernel_rfl) (by kernel_rfl) (
      .cons (d := some 2) (by kernel_rfl) (does_box (t := 24) (x := .tmp 0) (k := 1) (v := .agg #[.int .i64 ax, .int .i64 ay]) (cells := [.int .i64 ax, .int .i64 ay]) (by kernel_rfl) (by kernel_rfl) (by kernel_rfl) (by kernel_rfl)) <|
      .cons (d := some 3) (by kernel_rfl) (does_box (t := 24) (x := .tmp 1) (k := 2) (v := .agg #[.int .i64 bx, .int .i64 b_y]) (cells := [.int .i64 bx, .int .i64 b_y]) (by kernel_rfl) (by kernel_rfl) (by kernel_rfl) (by kernel_rfl)) <|
      .cons (d := some 4) (by kernel_rfl) (does_assign (x := .const (.int .i64 0)) (v := .int .i64 0) (by kernel_rfl) (by kernel_rfl)) <|
      .nil _ _) ?_
  refine aw_weak (weak_b (T := [(2, .pointer (some ⟨1, 0, none⟩)), (3, .pointer (some ⟨2, 0, none⟩)), (4, .int .i64 0)]) (L := [(1, ⟨[.int .i64 ax, .int .i64 ay], 24, true, 2⟩), (2, ⟨[.int .i64 bx, .int .i64 b_y], 24, true, 2⟩)]) (by kernel_rfl) (by kernel_rfl) (by kernel_rfl)) ?_
  refine aw_draws_seq (r := sub (bodyOf Try.f42) [true, false]) (y := sub (bodyOf Try.f42) [true, true]) (id := 1) (ops := regOps (sub (bodyOf Try.f42) [true, false])) [[], [0], [], [0, 1, 2], [0, 1, 2, 3], [0, 1, 2, 3, 4]] (by kernel_rfl) (by kernel_rfl) (by kernel_rfl) (by kernel_rfl) (by kernel_rfl) (by kernel_rfl) (
      .cons (d := some 5) (by kernel_rfl) (does_load (t := 24) (x := .tmp 2) (k := 1) (off := 0) (b := ⟨[.int .i64 ax, .int .i64 ay], 24, true, 2⟩) (v := .agg #[.int .i64 ax, .int .i64 ay]) (by kernel_rfl) (by kernel_rfl) (by kernel_rfl) (by kernel_rfl)) <|
      .cons (d := some 6) (by kernel_rfl) (does_call0 (x := .func 16) (ars := #[.tmp 5]) (ats := #[24]) (g := 16) (vs := [.agg #[.int .i64 ax, .int .i64 ay]]) (v := .agg #[.int .i64 (Sp.lim 1048576 ax), .int .i64 (Sp.lim 1048576 ay)]) (by kernel_rfl) (by kernel_rfl) (by kernel_rfl) (by kernel_rfl) (rvalid_ok ax ay) (by kernel_rfl) (by kernel_rfl)) <|
      .cons (d := some 7) (by kernel_rfl) (does_load (t := 24) (x := .tmp 3) (k := 2) (off := 0) (b := ⟨[.int .i64 bx, .int .i64 b_y], 24, true, 2⟩) (v := .agg #[.int .i64 bx, .int .i64 b_y]) (by kernel_rfl) (by kernel_rfl) (by kernel_rfl) (by kernel_rfl)) <|
      .cons (d := some 8) (by kernel_rfl) (does_call0 (x := .func 16) (ars := #[.tmp 7]) (ats := #[24]) (g := 16) (vs := [.agg #[.int .i64 bx, .int .i64 b_y]]) (v := .agg #[.int .i64 (Sp.lim 1048576 bx), .int .i64 (Sp.lim 1048576 b_y)]) (by kernel_rfl) (by kernel_rfl) (by kernel_rfl) (by kernel_rfl) (rvalid_ok bx b_y) (by kernel_rfl) (by kernel_rfl)) <|
      .cons (d := none) (by kernel_rfl) (does_store (t := 24) (x := .tmp 2) (y := .tmp 6) (k := 1) (off := 0) (b := ⟨[.int .i64 ax, .int .i64 ay], 24, true, 2⟩) (v := .agg #[.int .i64 (Sp.lim 1048576 ax), .int .i64 (Sp.lim 1048576 ay)]) (cells := [.int .i64 (Sp.lim 1048576 ax), .int .i64 (Sp.lim 1048576 ay)]) (by kernel_rfl) (by kernel_rfl) (by kernel_rfl) (by kernel_rfl) rfl (by kernel_rfl) (by kernel_rfl) (by kernel_rfl) (by kernel_rfl)) <|
      .cons (d := none) (by kernel_rfl) (does_store (t := 24) (x := .tmp 3) (y := .tmp 8) (k := 2) (off := 0) (b := ⟨[.int .i64 bx, .int .i64 b_y], 24, true, 2⟩) (v := .agg #[.int .i64 (Sp.lim 1048576 bx), .int .i64 (Sp.lim 1048576 b_y)]) (cells := [.int .i64 (Sp.lim 1048576 bx), .int .i64 (Sp.lim 1048576 b_y)]) (by kernel_rfl) (by kernel_rfl) (by kernel_rfl) (by kernel_rfl) rfl (by kernel_rfl) (by kernel_rfl) (by kernel_rfl) (by kernel_rfl)) <|
      .nil _ _) ?_
  refine aw_weak (weak_b (T := [(2, .pointer (some ⟨1, 0, none⟩)), (3, .pointer (some ⟨2, 0, none⟩)), (4, .int .i64 0)]) (L := [(1, ⟨[.int .i64 (Sp.lim 1048576 ax), .int .i64 (Sp.lim 1048576 ay)], 24, true, 2⟩), (2, ⟨[.int .i64 (Sp.lim 1048576 bx), .int .i64 (Sp.lim 1048576 b_y)], 24, true, 2⟩)]) (by kernel_rfl) (by kernel_rfl) (by kernel_rfl)) ?_
  refine aw_plain_seq (r := sub (bodyOf Try.f42) [true, true, false]) (y := sub (bodyOf Try.f42) [true, true, true]) (id := 2) (ops := regOps (sub (bodyOf Try.f42) [true, true, false])) (by kernel_rfl) (by kernel_rfl) (by kernel_rfl) (by kernel_rfl) (
      .cons (d := some 9) (by kernel_rfl) (does_fieldAddr (s := 24) (x := .tmp 2) (f := 0) (k := 1) (off := 0) (d := 0) (by kernel_rfl) (by kernel_rfl) (by kernel_rfl)) <|
      .cons (d := some 10) (by kernel_rfl) (does_load (t := 3) (x := .tmp 9) (k := 1) (off := 0) (b := ⟨[.int .i64 (Sp.lim 1048576 ax), .int .i64 (Sp.lim 1048576 ay)], 24, true, 2⟩) (v := .int .i64 (Sp.lim 1048576 ax)) (by kernel_rfl) (by kernel_rfl) (by kernel_rfl) (by kernel_rfl)) <|
      .cons (d := some 11) (by kernel_rfl) (does_fieldAddr (s := 24) (x := .tmp 3) (f := 0) (k := 2) (off := 0) (d := 0) (by kernel_rfl) (by kernel_rfl) (by kernel_rfl)) <|
      .cons (d := some 12) (by kernel_rfl) (does_load (t := 3) (x := .tmp 11) (k := 2) (off := 0) (b := ⟨[.int .i64 (Sp.lim 1048576 bx), .int .i64 (Sp.lim 1048576 b_y)], 24, true, 2⟩) (v := .int .i64 (Sp.lim 1048576 bx)) (by kernel_rfl) (by kernel_rfl) (by kernel_rfl) (by kernel_rfl)) <|
      .cons (d := some 13) (by kernel_rfl) (does_int (n' := (Sp.lim 1048576 ax) - (Sp.lim 1048576 bx)) (does_pure (v := .int .i64 (IntKind.wrap .i64 ((Sp.lim 1048576 ax) - (Sp.lim 1048576 bx)))) (by kernel_rfl) (fun w => by kernel_rfl) (by kernel_rfl)) (wrap_i64 (by omega) (by omega))) <|
      .cons (d := some 14) (by kernel_rfl) (does_fieldAddr (s := 24) (x := .tmp 2) (f := 0) (k := 1) (off := 0) (d := 0) (by kernel_rfl) (by kernel_rfl) (by kernel_rfl)) <|
      .cons (d := some 15) (by kernel_rfl) (does_load (t := 3) (x := .tmp 14) (k := 1) (off := 0) (b := ⟨[.int .i64 (Sp.lim 1048576 ax), .int .i64 (Sp.lim 1048576 ay)], 24, true, 2⟩) (v := .int .i64 (Sp.lim 1048576 ax)) (by kernel_rfl) (by kernel_rfl) (by kernel_rfl) (by kernel_rfl)) <|
      .cons (d := some 16) (by kernel_rfl) (does_fieldAddr (s := 24) (x := .tmp 3) (f := 0) (k := 2) (off := 0) (d := 0) (by kernel_rfl) (by kernel_rfl) (by kernel_rfl)) <|
      .cons (d := some 17) (by kernel_rfl) (does_load (t := 3) (x := .tmp 16) (k := 2) (off := 0) (b := ⟨[.int .i64 (Sp.lim 1048576 bx), .int .i64 (Sp.lim 1048576 b_y)], 24, true, 2⟩) (v := .int .i64 (Sp.lim 1048576 bx)) (by kernel_rfl) (by kernel_rfl) (by kernel_rfl) (by kernel_rfl)) <|
      .cons (d := some 18) (by kernel_rfl) (does_int (n' := (Sp.lim 1048576 ax) - (Sp.lim 1048576 bx)) (does_pure (v := .int .i64 (IntKind.wrap .i64 ((Sp.lim 1048576 ax) - (Sp.lim 1048576 bx)))) (by kernel_rfl) (fun w => by kernel_rfl) (by kernel_rfl)) (wrap_i64 (by omega) (by omega))) <|
      .cons (d := some 19) (by kernel_rfl) (does_int (n' := ((Sp.lim 1048576 ax) - (Sp.lim 1048576 bx)) * ((Sp.lim 1048576 ax) - (Sp.lim 1048576 bx))) (does_pure (v := .int .i64 (IntKind.wrap .i64 (((Sp.lim 1048576 ax) - (Sp.lim 1048576 bx)) * ((Sp.lim 1048576 ax) - (Sp.lim 1048576 bx))))) (by kernel_rfl) (fun w => by kernel_rfl) (by kernel_rfl)) (wrap_i64 (by omega) (by omega))) <|
      .cons (d := some 20) (by kernel_rfl) (does_fieldAddr (s := 24) (x := .tmp 2) (f := 1) (k := 1) (off := 0) (d := 1) (by kernel_rfl) (by kernel_rfl) (by kernel_rfl)) <|
      .cons (d := some 21) (by kernel_rfl) (does_load (t := 3) (x := .tmp 20) (k := 1) (off := 1) (b := ⟨[.int .i64 (Sp.lim 1048576 ax), .int .i64 (Sp.lim 1048576 ay)], 24, true, 2⟩) (v := .int .i64 (Sp.lim 1048576 ay)) (by kernel_rfl) (by kernel_rfl) (by kernel_rfl) (by kernel_rfl)) <|
      .cons (d := some 22) (by kernel_rfl) (does_fieldAddr (s := 24) (x := .tmp 3) (f := 1) (k := 2) (off := 0) (d := 1) (by kernel_rfl) (by kernel_rfl) (by kernel_rfl)) <|
      .cons (d := some 23) (by kernel_rfl) (does_load (t := 3) (x := .tmp 22) (k := 2) (off := 1) (b := ⟨[.int .i64 (Sp.lim 1048576 bx), .int .i64 (Sp.lim 1048576 b_y)], 24, true, 2⟩) (v := .int .i64 (Sp.lim 1048576 b_y)) (by kernel_rfl) (by kernel_rfl) (by kernel_rfl) (by kernel_rfl)) <|
      .cons (d := some 24) (by kernel_rfl) (does_int (n' := (Sp.lim 1048576 ay) - (Sp.lim 1048576 b_y)) (does_pure (v := .int .i64 (IntKind.wrap .i64 ((Sp.lim 1048576 ay) - (Sp.lim 1048576 b_y)))) (by kernel_rfl) (fun w => by kernel_rfl) (by kernel_rfl)) (wrap_i64 (by omega) (by omega))) <|
      .cons (d := some 25) (by kernel_rfl) (does_fieldAddr (s := 24) (x := .tmp 2) (f := 1) (k := 1) (off := 0) (d := 1) (by kernel_rfl) (by kernel_rfl) (by kernel_rfl)) <|
      .cons (d := some 26) (by kernel_rfl) (does_load (t := 3) (x := .tmp 25) (k := 1) (off := 1) (b := ⟨[.int .i64 (Sp.lim 1048576 ax), .int .i64 (Sp.lim 1048576 ay)], 24, true, 2⟩) (v := .int .i64 (Sp.lim 1048576 ay)) (by kernel_rfl) (by kernel_rfl) (by kernel_rfl) (by kernel_rfl)) <|
      .cons (d := some 27) (by kernel_rfl) (does_fieldAddr (s := 24) (x := .tmp 3) (f := 1) (k := 2) (off := 0) (d := 1) (by kernel_rfl) (by kernel_rfl) (by kernel_rfl)) <|
      .cons (d := some 28) (by kernel_rfl) (does_load (t := 3) (x := .tmp 27) (k := 2) (off := 1) (b := ⟨[.int .i64 (Sp.lim 1048576 bx), .int .i64 (Sp.lim 1048576 b_y)], 24, true, 2⟩) (v := .int .i64 (Sp.lim 1048576 b_y)) (by kernel_rfl) (by kernel_rfl) (by kernel_rfl) (by kernel_rfl)) <|
      .cons (d := some 29) (by kernel_rfl) (does_int (n' := (Sp.lim 1048576 ay) - (Sp.lim 1048576 b_y)) (does_pure (v := .int .i64 (IntKind.wrap .i64 ((Sp.lim 1048576 ay) - (Sp.lim 1048576 b_y)))) (by kernel_rfl) (fun w => by kernel_rfl) (by kernel_rfl)) (wrap_i64 (by omega) (by omega))) <|
      .cons (d := some 30) (by kernel_rfl) (does_int (n' := ((Sp.lim 1048576 ay) - (Sp.lim 1048576 b_y)) * ((Sp.lim 1048576 ay) - (Sp.lim 1048576 b_y))) (does_pure (v := .int .i64 (IntKind.wrap .i64 (((Sp.lim 1048576 ay) - (Sp.lim 1048576 b_y)) * ((Sp.lim 1048576 ay) - (Sp.lim 1048576 b_y))))) (by kernel_rfl) (fun w => by kernel_rfl) (by kernel_rfl)) (wrap_i64 (by omega) (by omega))) <|
      .cons (d := some 31) (by kernel_rfl) (does_int (n' := (((Sp.lim 1048576 ax) - (Sp.lim 1048576 bx)) * ((Sp.lim 1048576 ax) - (Sp.lim 1048576 bx))) + (((Sp.lim 1048576 ay) - (Sp.lim 1048576 b_y)) * ((Sp.lim 1048576 ay) - (Sp.lim 1048576 b_y)))) (does_pure (v := .int .i64 (IntKind.wrap .i64 ((((Sp.lim 1048576 ax) - (Sp.lim 1048576 bx)) * ((Sp.lim 1048576 ax) - (Sp.lim 1048576 bx))) + (((Sp.lim 1048576 ay) - (Sp.lim 1048576 b_y)) * ((Sp.lim 1048576 ay) - (Sp.lim 1048576 b_y)))))) (by kernel_rfl) (fun w => by kernel_rfl) (by kernel_rfl)) (wrap_i64 (by omega) (by omega))) <|
      .cons (d := some 4) (by kernel_rfl) (does_assign (x := .tmp 31) (v := .int .i64 ((((Sp.lim 1048576 ax) - (Sp.lim 1048576 bx)) * ((Sp.lim 1048576 ax) - (Sp.lim 1048576 bx))) + (((Sp.lim 1048576 ay) - (Sp.lim 1048576 b_y)) * ((Sp.lim 1048576 ay) - (Sp.lim 1048576 b_y))))) (by kernel_rfl) (by kernel_rfl)) <|
      .nil _ _) ?_
  refine aw_weak (weak_b (T := [(2, .pointer (some ⟨1, 0, none⟩)), (3, .pointer (some ⟨2, 0, none⟩)), (4, .int .i64 ((((Sp.lim 1048576 ax) - (Sp.lim 1048576 bx)) * ((Sp.lim 1048576 ax) - (Sp.lim 1048576 bx))) + (((Sp.lim 1048576 ay) - (Sp.lim 1048576 b_y)) * ((Sp.lim 1048576 ay) - (Sp.lim 1048576 b_y)))))]) (L := [(1, ⟨[.int .i64 (Sp.lim 1048576 ax), .int .i64 (Sp.lim 1048576 ay)], 24, true, 2⟩), (2, ⟨[.int .i64 (Sp.lim 1048576 bx), .int .i64 (Sp.lim 1048576 b_y)], 24, true, 2⟩)]) (by kernel_rfl) (by kernel_rfl) (by kernel_rfl)) ?_
  refine aw_ret (by kernel_rfl) ?_
  exact end_ret (vs := [.int .i64 ((((Sp.lim 1048576 ax) - (Sp.lim 1048576 bx)) * ((Sp.lim 1048576 ax) - (Sp.lim 1048576 bx))) + (((Sp.lim 1048576 ay) - (Sp.lim 1048576 b_y)) * ((Sp.lim 1048576 ay) - (Sp.lim 1048576 b_y))))]) (by kernel_rfl) (show (.int .i64 ((((Sp.lim 1048576 ax) - (Sp.lim 1048576 bx)) * ((Sp.lim 1048576 ax) - (Sp.lim 1048576 bx))) + (((Sp.lim 1048576 ay) - (Sp.lim 1048576 b_y)) * ((Sp.lim 1048576 ay) - (Sp.lim 1048576 b_y)))) : Value) = (.int .i64 (Sp.dot (Sp.lim 1048576 ax) (Sp.lim 1048576 ay) (Sp.lim 1048576 bx) (Sp.lim 1048576 b_y) (Sp.lim 1048576 bx) (Sp.lim 1048576 b_y))) from (congrArg (Value.int .i64) (show ((((Sp.lim 1048576 ax) - (Sp.lim 1048576 bx)) * ((Sp.lim 1048576 ax) - (Sp.lim 1048576 bx))) + (((Sp.lim 1048576 ay) - (Sp.lim 1048576 b_y)) * ((Sp.lim 1048576 ay) - (Sp.lim 1048576 b_y)))) = (Sp.dot (Sp.lim 1048576 ax) (Sp.lim 1048576 ay) (Sp.lim 1048576 bx) (Sp.lim 1048576 b_y) (Sp.lim 1048576 bx) (Sp.lim 1048576 b_y)) from by exact Sp.far_dot _ _ _ _))) trivial

theorem rdot_ok (ax ay bx b_y cx cy : Int) :
    AC Try.prog 38 0 ([.agg #[.int .i64 ax, .int .i64 ay], .agg #[.int .i64 bx, .int .i64 b_y], .agg #[.int .i64 cx, .int .i64 cy]]) [] (.int .i64 (Sp.dot (Sp.lim 1048576 ax) (Sp.lim 1048576 ay) (Sp.lim 1048576 bx) (Sp.lim 1048576 b_y) (Sp.lim 1048576 cx) (Sp.lim 1048576 cy))) [] := by
  have qax := Sp.lim_bd (m := 1048576) (by decide) ax; have qay := Sp.lim_bd (m := 1048576) (by decide) ay; have qbx := Sp.lim_bd (m := 1048576) (by decide) bx; have qb_y := Sp.lim_bd (m := 1048576) (by decide) b_y; have qcx := Sp.lim_bd (m := 1048576) (by decide) cx; have qcy := Sp.lim_bd (m := 1048576) (by decide) cy; have c0 := Sp.crs_bd (ax := (Sp.lim 1048576 ax)) (ay := (Sp.lim 1048576 ay)) (bx := (Sp.lim 1048576 bx)) (b_y := (Sp.lim 1048576 b_y)) (cx := (Sp.lim 1048576 bx)) (cy := (Sp.lim 1048576 b_y)) (M := 1048576) (by decide) ⟨by omega, by omega, by omega, by omega, by omega, by omega⟩; have c1 := Sp.crs_bd (ax := (Sp.lim 1048576 ax)) (ay := (Sp.lim 1048576 ay)) (bx := (Sp.lim 1048576 cx)) (b_y := (Sp.lim 1048576 cy)) (cx := (Sp.lim 1048576 cx)) (cy := (Sp.lim 1048576 cy)) (M := 1048576) (by decide) ⟨by omega, by omega, by omega, by omega, by omega, by omega⟩; have c2 := Sp.crs_bd (ax := (Sp.lim 1048576 bx)) (ay := (Sp.lim 1048576 b_y)) (bx := (Sp.lim 1048576 cx)) (b_y := (Sp.lim 1048576 cy)) (cx := (Sp.lim 1048576 cx)) (cy := (Sp.lim 1048576 cy)) (M := 1048576) (by decide) ⟨by omega, by omega, by omega, by omega, by omega, by omega⟩; have c3 := Sp.crs_bd (ax := (Sp.lim 1048576 ax)) (ay := (Sp.lim 1048576 ay)) (bx := (Sp.lim 1048576 bx)) (b_y := (Sp.lim 1048576 b_y)) (cx := (Sp.lim 1048576 cx)) (cy := (Sp.lim 1048576 cy)) (M := 1048576) (by decide) ⟨by omega, by omega, by omega, by omega, by omega, by omega⟩
  refine ac_intro (fn := Try.f38) (c := bodyOf Try.f38) Try.func38 (by kernel_rfl) (by kernel_rfl) (by kernel_rfl) ?_
  intro w0 W pin
  refine aw_sub ?_
  refine aw_plain_seq (r := sub (bodyOf Try.f38) [false]) (y := sub (bodyOf Try.f38) [true]) (id := 0) (ops := regOps (sub (bodyOf Try.f38) [false])) (by kernel_rfl) (by kernel_rfl) (by kernel_rfl) (by kernel_rfl) (
      .cons (d := some 3) (by kernel_rfl) (does_box (t := 24) (x := .tmp 0) (k := 1) (v := .agg #[.int .i64 ax, .int .i64 ay]) (cells := [.int .i64 ax, .int .i64 ay]) (by kernel_rfl) (by kernel_rfl) (by kernel_rfl) (by kernel_rfl)) <|
      .cons (d := some 4) (by kernel_rfl) (does_box (t := 24) (x := .tmp 1) (k := 2) (v := .agg #[.int .i64 bx, .int .i64 b_y]) (cells := [.int .i64 bx, .int .i64 b_y]) (by kernel_rfl) (by kernel_rfl) (by kernel_rfl) (by kernel_rfl)) <|
      .cons (d := some 5) (by kernel_rfl) (does_box (t := 24) (x := .tmp 2) (k := 3) (v := .agg #[.int .i64 cx, .int .i64 cy]) (cells := [.int .i64 cx, .int .i64 cy]) (by kernel_rfl) (by kernel_rfl) (by kernel_rfl) (by kernel_rfl)) <|
      .cons (d := some 6) (by kernel_rfl) (does_assign (x := .const (.int .i64 0)) (v := .int .i64 0) (by kernel_rfl) (by kernel_rfl)) <|
      .nil _ _) ?_
  refine aw_weak (weak_b (T := [(3, .pointer (some ⟨1, 0, none⟩)), (4, .pointer (some ⟨2, 0, none⟩)), (5, .pointer (some ⟨3, 0, none⟩)), (6, .int .i64 0)]) (L := [(1, ⟨[.int .i64 ax, .int .i64 ay], 24, true, 2⟩), (2, ⟨[.int .i64 bx, .int .i64 b_y], 24, true, 2⟩), (3, ⟨[.int .i64 cx, .int .i64 cy], 24, true, 2⟩)]) (by kernel_rfl) (by kernel_rfl) (by kernel_rfl)) ?_
  refine aw_draws_seq (r := sub (bodyOf Try.f38) [true, false]) (y := sub (bodyOf Try.f38) [true, true]) (id := 1) (ops := regOps (sub (bodyOf Try.f38) [true, false])) [[], [], [0, 1], [], [], [0, 1, 2, 3, 4], [0, 1, 2, 3, 4, 5], [], [], [0, 1, 2, 3, 4, 5, 7, 8], [0, 1, 2, 3, 4, 5, 6, 7, 8, 9], [0, 1, 2, 3, 4, 5, 6, 7, 8, 9, 10], [0, 1, 2, 3, 4, 5, 6, 7, 8, 9, 10, 11]] (by kernel_rfl) (by kernel_rfl) (by kernel_rfl) (by kernel_rfl) (by kernel_rfl) (by kernel_rfl) (
      .cons (d := some 7) (by kernel_rfl) (does_load (t := 24) (x := .tmp 3) (k := 1) (off := 0) (b := ⟨[.int .i64 ax, .int .i64 ay], 24, true, 2⟩) (v := .agg #[.int .i64 ax, .int .i64 ay]) (by kernel_rfl) (by kernel_rfl) (by kernel_rfl) (by kernel_rfl)) <|
      .cons (d := some 8) (by kernel_rfl) (does_load (t := 24) (x := .tmp 4) (k := 2) (off := 0) (b := ⟨[.int .i64 bx, .int .i64 b_y], 24, true, 2⟩) (v := .agg #[.int .i64 bx, .int .i64 b_y]) (by kernel_rfl) (by kernel_rfl) (by kernel_rfl) (by kernel_rfl)) <|
      .cons (d := some 9) (by kernel_rfl) (does_call0 (x := .func 42) (ars := #[.tmp 7, .tmp 8]) (ats := #[24, 24]) (g := 42) (vs := [.agg #[.int .i64 ax, .int .i64 ay], .agg #[.int .i64 bx, .int .i64 b_y]]) (v := .int .i64 (Sp.dot (Sp.lim 1048576 ax) (Sp.lim 1048576 ay) (Sp.lim 1048576 bx) (Sp.lim 1048576 b_y) (Sp.lim 1048576 bx) (Sp.lim 1048576 b_y))) (by kernel_rfl) (by kernel_rfl) (by kernel_rfl) (by kernel_rfl) (rfar_ok ax ay bx b_y) (by kernel_rfl) (by kernel_rfl)) <|
      .cons (d := some 10) (by kernel_rfl) (does_load (t := 24) (x := .tmp 3) (k := 1) (off := 0) (b := ⟨[.int .i64 ax, .int .i64 ay], 24, true, 2⟩) (v := .agg #[.int .i64 ax, .int .i64 ay]) (by kernel_rfl) (by kernel_rfl) (by kernel_rfl) (by kernel_rfl)) <|
      .cons (d := some 11) (by kernel_rfl) (does_load (t := 24) (x := .tmp 5) (k := 3) (off := 0) (b := ⟨[.int .i64 cx, .int .i64 cy], 24, true, 2⟩) (v := .agg #[.int .i64 cx, .int .i64 cy]) (by kernel_rfl) (by kernel_rfl) (by kernel_rfl) (by kernel_rfl)) <|
      .cons (d := some 12) (by kernel_rfl) (does_call0 (x := .func 42) (ars := #[.tmp 10, .tmp 11]) (ats := #[24, 24]) (g := 42) (vs := [.agg #[.int .i64 ax, .int .i64 ay], .agg #[.int .i64 cx, .int .i64 cy]]) (v := .int .i64 (Sp.dot (Sp.lim 1048576 ax) (Sp.lim 1048576 ay) (Sp.lim 1048576 cx) (Sp.lim 1048576 cy) (Sp.lim 1048576 cx) (Sp.lim 1048576 cy))) (by kernel_rfl) (by kernel_rfl) (by kernel_rfl) (by kernel_rfl) (rfar_ok ax ay cx cy) (by kernel_rfl) (by kernel_rfl)) <|
      .cons (d := some 13) (by kernel_rfl) (does_int (n' := (Sp.dot (Sp.lim 1048576 ax) (Sp.lim 1048576 ay) (Sp.lim 1048576 bx) (Sp.lim 1048576 b_y) (Sp.lim 1048576 bx) (Sp.lim 1048576 b_y)) + (Sp.dot (Sp.lim 1048576 ax) (Sp.lim 1048576 ay) (Sp.lim 1048576 cx) (Sp.lim 1048576 cy) (Sp.lim 1048576 cx) (Sp.lim 1048576 cy))) (does_pure (v := .int .i64 (IntKind.wrap .i64 ((Sp.dot (Sp.lim 1048576 ax) (Sp.lim 1048576 ay) (Sp.lim 1048576 bx) (Sp.lim 1048576 b_y) (Sp.lim 1048576 bx) (Sp.lim 1048576 b_y)) + (Sp.dot (Sp.lim 1048576 ax) (Sp.lim 1048576 ay) (Sp.lim 1048576 cx) (Sp.lim 1048576 cy) (Sp.lim 1048576 cx) (Sp.lim 1048576 cy))))) (by kernel_rfl) (fun w => by kernel_rfl) (by kernel_rfl)) (wrap_i64 (by omega) (by omega))) <|
      .cons (d := some 14) (by kernel_rfl) (does_load (t := 24) (x := .tmp 4) (k := 2) (off := 0) (b := ⟨[.int .i64 bx, .int .i64 b_y], 24, true, 2⟩) (v := .agg #[.int .i64 bx, .int .i64 b_y]) (by kernel_rfl) (by kernel_rfl) (by kernel_rfl) (by kernel_rfl)) <|
      .cons (d := some 15) (by kernel_rfl) (does_load (t := 24) (x := .tmp 5) (k := 3) (off := 0) (b := ⟨[.int .i64 cx, .int .i64 cy], 24, true, 2⟩) (v := .agg #[.int .i64 cx, .int .i64 cy]) (by kernel_rfl) (by kernel_rfl) (by kernel_rfl) (by kernel_rfl)) <|
      .cons (d := some 16) (by kernel_rfl) (does_call0 (x := .func 42) (ars := #[.tmp 14, .tmp 15]) (ats := #[24, 24]) (g := 42) (vs := [.agg #[.int .i64 bx, .int .i64 b_y], .agg #[.int .i64 cx, .int .i64 cy]]) (v := .int .i64 (Sp.dot (Sp.lim 1048576 bx) (Sp.lim 1048576 b_y) (Sp.lim 1048576 cx) (Sp.lim 1048576 cy) (Sp.lim 1048576 cx) (Sp.lim 1048576 cy))) (by kernel_rfl) (by kernel_rfl) (by kernel_rfl) (by kernel_rfl) (rfar_ok bx b_y cx cy) (by kernel_rfl) (by kernel_rfl)) <|
      .cons (d := some 17) (by kernel_rfl) (does_int (n' := ((Sp.dot (Sp.lim 1048576 ax) (Sp.lim 1048576 ay) (Sp.lim 1048576 bx) (Sp.lim 1048576 b_y) (Sp.lim 1048576 bx) (Sp.lim 1048576 b_y)) + (Sp.dot (Sp.lim 1048576 ax) (Sp.lim 1048576 ay) (Sp.lim 1048576 cx) (Sp.lim 1048576 cy) (Sp.lim 1048576 cx) (Sp.lim 1048576 cy))) - (Sp.dot (Sp.lim 1048576 bx) (Sp.lim 1048576 b_y) (Sp.lim 1048576 cx) (Sp.lim 1048576 cy) (Sp.lim 1048576 cx) (Sp.lim 1048576 cy))) (does_pure (v := .int .i64 (IntKind.wrap .i64 (((Sp.dot (Sp.lim 1048576 ax) (Sp.lim 1048576 ay) (Sp.lim 1048576 bx) (Sp.lim 1048576 b_y) (Sp.lim 1048576 bx) (Sp.lim 1048576 b_y)) + (Sp.dot (Sp.lim 1048576 ax) (Sp.lim 1048576 ay) (Sp.lim 1048576 cx) (Sp.lim 1048576 cy) (Sp.lim 1048576 cx) (Sp.lim 1048576 cy))) - (Sp.dot (Sp.lim 1048576 bx) (Sp.lim 1048576 b_y) (Sp.lim 1048576 cx) (Sp.lim 1048576 cy) (Sp.lim 1048576 cx) (Sp.lim 1048576 cy))))) (by kernel_rfl) (fun w => by kernel_rfl) (by kernel_rfl)) (wrap_i64 (by omega) (by omega))) <|
      .cons (d := some 18) (by kernel_rfl) (does_int (n' := Int.tdiv (((Sp.dot (Sp.lim 1048576 ax) (Sp.lim 1048576 ay) (Sp.lim 1048576 bx) (Sp.lim 1048576 b_y) (Sp.lim 1048576 bx) (Sp.lim 1048576 b_y)) + (Sp.dot (Sp.lim 1048576 ax) (Sp.lim 1048576 ay) (Sp.lim 1048576 cx) (Sp.lim 1048576 cy) (Sp.lim 1048576 cx) (Sp.lim 1048576 cy))) - (Sp.dot (Sp.lim 1048576 bx) (Sp.lim 1048576 b_y) (Sp.lim 1048576 cx) (Sp.lim 1048576 cy) (Sp.lim 1048576 cx) (Sp.lim 1048576 cy))) 2) (does_pure (v := .int .i64 (IntKind.wrap .i64 (Int.tdiv (((Sp.dot (Sp.lim 1048576 ax) (Sp.lim 1048576 ay) (Sp.lim 1048576 bx) (Sp.lim 1048576 b_y) (Sp.lim 1048576 bx) (Sp.lim 1048576 b_y)) + (Sp.dot (Sp.lim 1048576 ax) (Sp.lim 1048576 ay) (Sp.lim 1048576 cx) (Sp.lim 1048576 cy) (Sp.lim 1048576 cx) (Sp.lim 1048576 cy))) - (Sp.dot (Sp.lim 1048576 bx) (Sp.lim 1048576 b_y) (Sp.lim 1048576 cx) (Sp.lim 1048576 cy) (Sp.lim 1048576 cx) (Sp.lim 1048576 cy))) 2))) (by kernel_rfl) (fun w => by kernel_rfl) (by kernel_rfl)) (wrap_i64 (by rw [Sp.cosines]; omega) (by rw [Sp.cosines]; omega))) <|
      .cons (d := some 6) (by kernel_rfl) (does_assign (x := .tmp 18) (v := .int .i64 (Int.tdiv (((Sp.dot (Sp.lim 1048576 ax) (Sp.lim 1048576 ay) (Sp.lim 1048576 bx) (Sp.lim 1048576 b_y) (Sp.lim 1048576 bx) (Sp.lim 1048576 b_y)) + (Sp.dot (Sp.lim 1048576 ax) (Sp.lim 1048576 ay) (Sp.lim 1048576 cx) (Sp.lim 1048576 cy) (Sp.lim 1048576 cx) (Sp.lim 1048576 cy))) - (Sp.dot (Sp.lim 1048576 bx) (Sp.lim 1048576 b_y) (Sp.lim 1048576 cx) (Sp.lim 1048576 cy) (Sp.lim 1048576 cx) (Sp.lim 1048576 cy))) 2)) (by kernel_rfl) (by kernel_rfl)) <|
      .nil _ _) ?_
  refine aw_weak (weak_b (T := [(6, .int .i64 (Int.tdiv (((Sp.dot (Sp.lim 1048576 ax) (Sp.lim 1048576 ay) (Sp.lim 1048576 bx) (Sp.lim 1048576 b_y) (Sp.lim 1048576 bx) (Sp.lim 1048576 b_y)) + (Sp.dot (Sp.lim 1048576 ax) (Sp.lim 1048576 ay) (Sp.lim 1048576 cx) (Sp.lim 1048576 cy) (Sp.lim 1048576 cx) (Sp.lim 1048576 cy))) - (Sp.dot (Sp.lim 1048576 bx) (Sp.lim 1048576 b_y) (Sp.lim 1048576 cx) (Sp.lim 1048576 cy) (Sp.lim 1048576 cx) (Sp.lim 1048576 cy))) 2))]) (L := []) (by kernel_rfl) (by kernel_rfl) (by kernel_rfl)) ?_
  refine aw_ret (by kernel_rfl) ?_
  exact end_ret (vs := [.int .i64 (Int.tdiv (((Sp.dot (Sp.lim 1048576 ax) (Sp.lim 1048576 ay) (Sp.lim 1048576 bx) (Sp.lim 1048576 b_y) (Sp.lim 1048576 bx) (Sp.lim 1048576 b_y)) + (Sp.dot (Sp.lim 1048576 ax) (Sp.lim 1048576 ay) (Sp.lim 1048576 cx) (Sp.lim 1048576 cy) (Sp.lim 1048576 cx) (Sp.lim 1048576 cy))) - (Sp.dot (Sp.lim 1048576 bx) (Sp.lim 1048576 b_y) (Sp.lim 1048576 cx) (Sp.lim 1048576 cy) (Sp.lim 1048576 cx) (Sp.lim 1048576 cy))) 2)]) (by kernel_rfl) (show (.int .i64 (Int.tdiv (((Sp.dot (Sp.lim 1048576 ax) (Sp.lim 1048576 ay) (Sp.lim 1048576 bx) (Sp.lim 1048576 b_y) (Sp.lim 1048576 bx) (Sp.lim 1048576 b_y)) + (Sp.dot (Sp.lim 1048576 ax) (Sp.lim 1048576 ay) (Sp.lim 1048576 cx) (Sp.lim 1048576 cy) (Sp.lim 1048576 cx) (Sp.lim 1048576 cy))) - (Sp.dot (Sp.lim 1048576 bx) (Sp.lim 1048576 b_y) (Sp.lim 1048576 cx) (Sp.lim 1048576 cy) (Sp.lim 1048576 cx) (Sp.lim 1048576 cy))) 2) : Value) = (.int .i64 (Sp.dot (Sp.lim 1048576 ax) (Sp.lim 1048576 ay) (Sp.lim 1048576 bx) (Sp.lim 1048576 b_y) (Sp.lim 1048576 cx) (Sp.lim 1048576 cy))) from (congrArg (Value.int .i64) (show (Int.tdiv (((Sp.dot (Sp.lim 1048576 ax) (Sp.lim 1048576 ay) (Sp.lim 1048576 bx) (Sp.lim 1048576 b_y) (Sp.lim 1048576 bx) (Sp.lim 1048576 b_y)) + (Sp.dot (Sp.lim 1048576 ax) (Sp.lim 1048576 ay) (Sp.lim 1048576 cx) (Sp.lim 1048576 cy) (Sp.lim 1048576 cx) (Sp.lim 1048576 cy))) - (Sp.dot (Sp.lim 1048576 bx) (Sp.lim 1048576 b_y) (Sp.lim 1048576 cx) (Sp.lim 1048576 cy) (Sp.lim 1048576 cx) (Sp.lim 1048576 cy))) 2) = (Sp.dot (Sp.lim 1048576 ax) (Sp.lim 1048576 ay) (Sp.lim 1048576 bx) (Sp.lim 1048576 b_y) (Sp.lim 1048576 cx) (Sp.lim 1048576 cy)) from by exact Sp.cosines _ _ _ _ _ _))) trivial

theorem rbetween_ok (n a b : Int) :
    AC Try.prog 81 0 ([.int .i64 n, .int .i64 a, .int .i64 b]) [] (.bool (Sp.btw n a b)) [] := by
  refine ac_intro (fn := Try.f81) (c := bodyOf Try.f81) Try.func81 (by kernel_rfl) (by kernel_rfl) (by kernel_rfl) ?_
  intro w0 W pin
  refine aw_sub ?_
  refine aw_plain_seq (r := sub (bodyOf Try.f81) [false]) (y := sub (bodyOf Try.f81) [true]) (id := 0) (ops := regOps (sub (bodyOf Try.f81) [false])) (by kernel_rfl) (by kernel_rfl) (by kernel_rfl) (by kernel_rfl) (
      .cons (d := some 6) (by kernel_rfl) (does_assign (x := .const (.bool false)) (v := .bool false) (by kernel_rfl) (by kernel_rfl)) <|
      .nil _ _) ?_
  rcases Bool.eq_false_or_eq_true (decide (a ≤ n)) with h1 | h1
  · have h1p : ((a ≤ n)) := by first | (simpa using h1) | (have h1q := h1; simp at h1q; omega) | (have h1q := bx1 h1; simp at h1q; omega)
    rcases Bool.eq_false_or_eq_true (decide (n ≤ b)) with h2 | h2
    · have h2p : ((n ≤ b)) := by first | (simpa using h2) | (have h2q := h2; simp at h2q; omega) | (have h2q := bx1 h2; simp at h2q; omega)
      refine aw_plain_seq (r := sub (bodyOf Try.f81) [true, false]) (y := sub (bodyOf Try.f81) [true, true]) (id := 1) (ops := regOps (sub (bodyOf Try.f81) [true, false])) (by kernel_rfl) (by kernel_rfl) (by kernel_rfl) (by kernel_rfl) (
          .cons (d := some 7) (by kernel_rfl) (does_move (x := .tmp 1) (v := .int .i64 a) (by kernel_rfl) (by kernel_rfl)) <|
          .cons (d := some 8) (by kernel_rfl) (does_move (x := .tmp 0) (v := .int .i64 n) (by kernel_rfl) (by kernel_rfl)) <|
          .cons (d := some 9) (by kernel_rfl) (does_bool (b' := true) (does_pure (v := .bool (decide (a ≤ n))) (by kernel_rfl) (fun w => by kernel_rfl) (by kernel_rfl)) (h1)) <|
          .cons (d := some 10) (by kernel_rfl) (does_move (x := .tmp 9) (v := .bool true) (by kernel_rfl) (by kernel_rfl)) <|
          .cons (d := some 11) (by kernel_rfl) (does_move (x := .tmp 0) (v := .int .i64 n) (by kernel_rfl) (by kernel_rfl)) <|
          .cons (d := some 12) (by kernel_rfl) (does_move (x := .tmp 2) (v := .int .i64 b) (by kernel_rfl) (by kernel_rfl)) <|
          .cons (d := some 13) (by kernel_rfl) (does_bool (b' := true) (does_pure (v := .bool (decide (n ≤ b))) (by kernel_rfl) (fun w => by kernel_rfl) (by kernel_rfl)) (h2)) <|
          .cons (d := some 14) (by kernel_rfl) (does_pick (c := .tmp 10) (x := .tmp 13) (y := .const (.bool false)) (b := true) (v := .bool true) (by kernel_rfl) (by kernel_rfl) (by kernel_rfl)) <|
          .cons (d := some 15) (by kernel_rfl) (does_move (x := .tmp 14) (v := .bool true) (by kernel_rfl) (by kernel_rfl)) <|
          .cons (d := some 16) (by kernel_rfl) (does_skipB (by kernel_rfl)) <|
          .cons (d := some 17) (by kernel_rfl) (does_skipB (by kernel_rfl)) <|
          .cons (d := some 18) (by kernel_rfl) (does_skipB (by kernel_rfl)) <|
          .cons (d := some 19) (by kernel_rfl) (does_skipB (by kernel_rfl)) <|
          .cons (d := some 20) (by kernel_rfl) (does_skipB (by kernel_rfl)) <|
          .cons (d := some 21) (by kernel_rfl) (does_skipB (by kernel_rfl)) <|
          .cons (d := some 22) (by kernel_rfl) (does_skipB (by kernel_rfl)) <|
          .cons (d := some 23) (by kernel_rfl) (does_skipB (by kernel_rfl)) <|
          .cons (d := some 24) (by kernel_rfl) (does_pick (c := .tmp 15) (x := .const (.bool true)) (y := .tmp 23) (b := true) (v := .bool true) (by kernel_rfl) (by kernel_rfl) (by kernel_rfl)) <|
          .cons (d := some 6) (by kernel_rfl) (does_assign (x := .tmp 24) (v := .bool true) (by kernel_rfl) (by kernel_rfl)) <|
          .nil _ _) ?_
      refine aw_ret (by kernel_rfl) ?_
      exact end_ret (vs := [.bool true]) (by kernel_rfl) (show (.bool true : Value) = (.bool (Sp.btw n a b)) from (congrArg Value.bool (show true = (Sp.btw n a b) from by (simp [Sp.btw, *])))) trivial
    · have h2p : ¬ ((n ≤ b)) := by first | (simpa using h2) | (have h2q := h2; simp at h2q; omega) | (have h2q := bx2 h2; simp at h2q; omega)
      rcases Bool.eq_false_or_eq_true (decide (b ≤ n)) with h3 | h3
      · have h3p : ((b ≤ n)) := by first | (simpa using h3) | (have h3q := h3; simp at h3q; omega) | (have h3q := bx1 h3; simp at h3q; omega)
        refine aw_plain_seq (r := sub (bodyOf Try.f81) [true, false]) (y := sub (bodyOf Try.f81) [true, true]) (id := 1) (ops := regOps (sub (bodyOf Try.f81) [true, false])) (by kernel_rfl) (by kernel_rfl) (by kernel_rfl) (by kernel_rfl) (
            .cons (d := some 7) (by kernel_rfl) (does_move (x := .tmp 1) (v := .int .i64 a) (by kernel_rfl) (by kernel_rfl)) <|
            .cons (d := some 8) (by kernel_rfl) (does_move (x := .tmp 0) (v := .int .i64 n) (by kernel_rfl) (by kernel_rfl)) <|
            .cons (d := some 9) (by kernel_rfl) (does_bool (b' := true) (does_pure (v := .bool (decide (a ≤ n))) (by kernel_rfl) (fun w => by kernel_rfl) (by kernel_rfl)) (h1)) <|
            .cons (d := some 10) (by kernel_rfl) (does_move (x := .tmp 9) (v := .bool true) (by kernel_rfl) (by kernel_rfl)) <|
            .cons (d := some 11) (by kernel_rfl) (does_move (x := .tmp 0) (v := .int .i64 n) (by kernel_rfl) (by kernel_rfl)) <|
            .cons (d := some 12) (by kernel_rfl) (does_move (x := .tmp 2) (v := .int .i64 b) (by kernel_rfl) (by kernel_rfl)) <|
            .cons (d := some 13) (by kernel_rfl) (does_bool (b' := false) (does_pure (v := .bool (decide (n ≤ b))) (by kernel_rfl) (fun w => by kernel_rfl) (by kernel_rfl)) (h2)) <|
            .cons (d := some 14) (by kernel_rfl) (does_pick (c := .tmp 10) (x := .tmp 13) (y := .const (.bool false)) (b := true) (v := .bool false) (by kernel_rfl) (by kernel_rfl) (by kernel_rfl)) <|
            .cons (d := some 15) (by kernel_rfl) (does_move (x := .tmp 14) (v := .bool false) (by kernel_rfl) (by kernel_rfl)) <|
            .cons (d := some 16) (by kernel_rfl) (does_move (x := .tmp 2) (v := .int .i64 b) (by kernel_rfl) (by kernel_rfl)) <|
            .cons (d := some 17) (by kernel_rfl) (does_move (x := .tmp 0) (v := .int .i64 n) (by kernel_rfl) (by kernel_rfl)) <|
            .cons (d := some 18) (by kernel_rfl) (does_bool (b' := true) (does_pure (v := .bool (decide (b ≤ n))) (by kernel_rfl) (fun w => by kernel_rfl) (by kernel_rfl)) (h3)) <|
            .cons (d := some 19) (by kernel_rfl) (does_move (x := .tmp 18) (v := .bool true) (by kernel_rfl) (by kernel_rfl)) <|
            .cons (d := some 20) (by kernel_rfl) (does_move (x := .tmp 0) (v := .int .i64 n) (by kernel_rfl) (by kernel_rfl)) <|
            .cons (d := some 21) (by kernel_rfl) (does_move (x := .tmp 1) (v := .int .i64 a) (by kernel_rfl) (by kernel_rfl)) <|
            .cons (d := some 22) (by kernel_rfl) (does_pure (v := .bool (decide (n ≤ a))) (by kernel_rfl) (fun w => by kernel_rfl) (by kernel_rfl)) <|
            .cons (d := some 23) (by kernel_rfl) (does_pick (c := .tmp 19) (x := .tmp 22) (y := .const (.bool false)) (b := true) (v := .bool (decide (n ≤ a))) (by kernel_rfl) (by kernel_rfl) (by kernel_rfl)) <|
            .cons (d := some 24) (by kernel_rfl) (does_pick (c := .tmp 15) (x := .const (.bool true)) (y := .tmp 23) (b := false) (v := .bool (decide (n ≤ a))) (by kernel_rfl) (by kernel_rfl) (by kernel_rfl)) <|
            .cons (d := some 6) (by kernel_rfl) (does_assign (x := .tmp 24) (v := .bool (decide (n ≤ a))) (by kernel_rfl) (by kernel_rfl)) <|
            .nil _ _) ?_
        refine aw_ret (by kernel_rfl) ?_
        exact end_ret (vs := [.bool (decide (n ≤ a))]) (by kernel_rfl) (show (.bool (decide (n ≤ a)) : Value) = (.bool (Sp.btw n a b)) from (congrArg Value.bool (show (decide (n ≤ a)) = (Sp.btw n a b) from by (simp [Sp.btw, *])))) trivial
      · have h3p : ¬ ((b ≤ n)) := by first | (simpa using h3) | (have h3q := h3; simp at h3q; omega) | (have h3q := bx2 h3; simp at h3q; omega)
        refine aw_plain_seq (r := sub (bodyOf Try.f81) [true, false]) (y := sub (bodyOf Try.f81) [true, true]) (id := 1) (ops := regOps (sub (bodyOf Try.f81) [true, false])) (by kernel_rfl) (by kernel_rfl) (by kernel_rfl) (by kernel_rfl) (
            .cons (d := some 7) (by kernel_rfl) (does_move (x := .tmp 1) (v := .int .i64 a) (by kernel_rfl) (by kernel_rfl)) <|
            .cons (d := some 8) (by kernel_rfl) (does_move (x := .tmp 0) (v := .int .i64 n) (by kernel_rfl) (by kernel_rfl)) <|
            .cons (d := some 9) (by kernel_rfl) (does_bool (b' := true) (does_pure (v := .bool (decide (a ≤ n))) (by kernel_rfl) (fun w => by kernel_rfl) (by kernel_rfl)) (h1)) <|
            .cons (d := some 10) (by kernel_rfl) (does_move (x := .tmp 9) (v := .bool true) (by kernel_rfl) (by kernel_rfl)) <|
            .cons (d := some 11) (by kernel_rfl) (does_move (x := .tmp 0) (v := .int .i64 n) (by kernel_rfl) (by kernel_rfl)) <|
            .cons (d := some 12) (by kernel_rfl) (does_move (x := .tmp 2) (v := .int .i64 b) (by kernel_rfl) (by kernel_rfl)) <|
            .cons (d := some 13) (by kernel_rfl) (does_bool (b' := false) (does_pure (v := .bool (decide (n ≤ b))) (by kernel_rfl) (fun w => by kernel_rfl) (by kernel_rfl)) (h2)) <|
            .cons (d := some 14) (by kernel_rfl) (does_pick (c := .tmp 10) (x := .tmp 13) (y := .const (.bool false)) (b := true) (v := .bool false) (by kernel_rfl) (by kernel_rfl) (by kernel_rfl)) <|
            .cons (d := some 15) (by kernel_rfl) (does_move (x := .tmp 14) (v := .bool false) (by kernel_rfl) (by kernel_rfl)) <|
            .cons (d := some 16) (by kernel_rfl) (does_move (x := .tmp 2) (v := .int .i64 b) (by kernel_rfl) (by kernel_rfl)) <|
            .cons (d := some 17) (by kernel_rfl) (does_move (x := .tmp 0) (v := .int .i64 n) (by kernel_rfl) (by kernel_rfl)) <|
            .cons (d := some 18) (by kernel_rfl) (does_bool (b' := false) (does_pure (v := .bool (decide (b ≤ n))) (by kernel_rfl) (fun w => by kernel_rfl) (by kernel_rfl)) (h3)) <|
            .cons (d := some 19) (by kernel_rfl) (does_move (x := .tmp 18) (v := .bool false) (by kernel_rfl) (by kernel_rfl)) <|
            .cons (d := some 20) (by kernel_rfl) (does_skipB (by kernel_rfl)) <|
            .cons (d := some 21) (by kernel_rfl) (does_skipB (by kernel_rfl)) <|
            .cons (d := some 22) (by kernel_rfl) (does_skipB (by kernel_rfl)) <|
            .cons (d := some 23) (by kernel_rfl) (does_pick (c := .tmp 19) (x := .tmp 22) (y := .const (.bool false)) (b := false) (v := .bool false) (by kernel_rfl) (by kernel_rfl) (by kernel_rfl)) <|
            .cons (d := some 24) (by kernel_rfl) (does_pick (c := .tmp 15) (x := .const (.bool true)) (y := .tmp 23) (b := false) (v := .bool false) (by kernel_rfl) (by kernel_rfl) (by kernel_rfl)) <|
            .cons (d := some 6) (by kernel_rfl) (does_assign (x := .tmp 24) (v := .bool false) (by kernel_rfl) (by kernel_rfl)) <|
            .nil _ _) ?_
        refine aw_ret (by kernel_rfl) ?_
        exact end_ret (vs := [.bool false]) (by kernel_rfl) (show (.bool false : Value) = (.bool (Sp.btw n a b)) from (congrArg Value.bool (show false = (Sp.btw n a b) from by (simp [Sp.btw, *])))) trivial
  · have h1p : ¬ ((a ≤ n)) := by first | (simpa using h1) | (have h1q := h1; simp at h1q; omega) | (have h1q := bx2 h1; simp at h1q; omega)
    rcases Bool.eq_false_or_eq_true (decide (b ≤ n)) with h4 | h4
    · have h4p : ((b ≤ n)) := by first | (simpa using h4) | (have h4q := h4; simp at h4q; omega) | (have h4q := bx1 h4; simp at h4q; omega)
      refine aw_plain_seq (r := sub (bodyOf Try.f81) [true, false]) (y := sub (bodyOf Try.f81) [true, true]) (id := 1) (ops := regOps (sub (bodyOf Try.f81) [true, false])) (by kernel_rfl) (by kernel_rfl) (by kernel_rfl) (by kernel_rfl) (
          .cons (d := some 7) (by kernel_rfl) (does_move (x := .tmp 1) (v := .int .i64 a) (by kernel_rfl) (by kernel_rfl)) <|
          .cons (d := some 8) (by kernel_rfl) (does_move (x := .tmp 0) (v := .int .i64 n) (by kernel_rfl) (by kernel_rfl)) <|
          .cons (d := some 9) (by kernel_rfl) (does_bool (b' := false) (does_pure (v := .bool (decide (a ≤ n))) (by kernel_rfl) (fun w => by kernel_rfl) (by kernel_rfl)) (h1)) <|
          .cons (d := some 10) (by kernel_rfl) (does_move (x := .tmp 9) (v := .bool false) (by kernel_rfl) (by kernel_rfl)) <|
          .cons (d := some 11) (by kernel_rfl) (does_skipB (by kernel_rfl)) <|
          .cons (d := some 12) (by kernel_rfl) (does_skipB (by kernel_rfl)) <|
          .cons (d := some 13) (by kernel_rfl) (does_skipB (by kernel_rfl)) <|
          .cons (d := some 14) (by kernel_rfl) (does_pick (c := .tmp 10) (x := .tmp 13) (y := .const (.bool false)) (b := false) (v := .bool false) (by kernel_rfl) (by kernel_rfl) (by kernel_rfl)) <|
          .cons (d := some 15) (by kernel_rfl) (does_move (x := .tmp 14) (v := .bool false) (by kernel_rfl) (by kernel_rfl)) <|
          .cons (d := some 16) (by kernel_rfl) (does_move (x := .tmp 2) (v := .int .i64 b) (by kernel_rfl) (by kernel_rfl)) <|
          .cons (d := some 17) (by kernel_rfl) (does_move (x := .tmp 0) (v := .int .i64 n) (by kernel_rfl) (by kernel_rfl)) <|
          .cons (d := some 18) (by kernel_rfl) (does_bool (b' := true) (does_pure (v := .bool (decide (b ≤ n))) (by kernel_rfl) (fun w => by kernel_rfl) (by kernel_rfl)) (h4)) <|
          .cons (d := some 19) (by kernel_rfl) (does_move (x := .tmp 18) (v := .bool true) (by kernel_rfl) (by kernel_rfl)) <|
          .cons (d := some 20) (by kernel_rfl) (does_move (x := .tmp 0) (v := .int .i64 n) (by kernel_rfl) (by kernel_rfl)) <|
          .cons (d := some 21) (by kernel_rfl) (does_move (x := .tmp 1) (v := .int .i64 a) (by kernel_rfl) (by kernel_rfl)) <|
          .cons (d := some 22) (by kernel_rfl) (does_pure (v := .bool (decide (n ≤ a))) (by kernel_rfl) (fun w => by kernel_rfl) (by kernel_rfl)) <|
          .cons (d := some 23) (by kernel_rfl) (does_pick (c := .tmp 19) (x := .tmp 22) (y := .const (.bool false)) (b := true) (v := .bool (decide (n ≤ a))) (by kernel_rfl) (by kernel_rfl) (by kernel_rfl)) <|
          .cons (d := some 24) (by kernel_rfl) (does_pick (c := .tmp 15) (x := .const (.bool true)) (y := .tmp 23) (b := false) (v := .bool (decide (n ≤ a))) (by kernel_rfl) (by kernel_rfl) (by kernel_rfl)) <|
          .cons (d := some 6) (by kernel_rfl) (does_assign (x := .tmp 24) (v := .bool (decide (n ≤ a))) (by kernel_rfl) (by kernel_rfl)) <|
          .nil _ _) ?_
      refine aw_ret (by kernel_rfl) ?_
      exact end_ret (vs := [.bool (decide (n ≤ a))]) (by kernel_rfl) (show (.bool (decide (n ≤ a)) : Value) = (.bool (Sp.btw n a b)) from (congrArg Value.bool (show (decide (n ≤ a)) = (Sp.btw n a b) from by (simp [Sp.btw, *])))) trivial
    · have h4p : ¬ ((b ≤ n)) := by first | (simpa using h4) | (have h4q := h4; simp at h4q; omega) | (have h4q := bx2 h4; simp at h4q; omega)
      refine aw_plain_seq (r := sub (bodyOf Try.f81) [true, false]) (y := sub (bodyOf Try.f81) [true, true]) (id := 1) (ops := regOps (sub (bodyOf Try.f81) [true, false])) (by kernel_rfl) (by kernel_rfl) (by kernel_rfl) (by kernel_rfl) (
          .cons (d := some 7) (by kernel_rfl) (does_move (x := .tmp 1) (v := .int .i64 a) (by kernel_rfl) (by kernel_rfl)) <|
          .cons (d := some 8) (by kernel_rfl) (does_move (x := .tmp 0) (v := .int .i64 n) (by kernel_rfl) (by kernel_rfl)) <|
          .cons (d := some 9) (by kernel_rfl) (does_bool (b' := false) (does_pure (v := .bool (decide (a ≤ n))) (by kernel_rfl) (fun w => by kernel_rfl) (by kernel_rfl)) (h1)) <|
          .cons (d := some 10) (by kernel_rfl) (does_move (x := .tmp 9) (v := .bool false) (by kernel_rfl) (by kernel_rfl)) <|
          .cons (d := some 11) (by kernel_rfl) (does_skipB (by kernel_rfl)) <|
          .cons (d := some 12) (by kernel_rfl) (does_skipB (by kernel_rfl)) <|
          .cons (d := some 13) (by kernel_rfl) (does_skipB (by kernel_rfl)) <|
          .cons (d := some 14) (by kernel_rfl) (does_pick (c := .tmp 10) (x := .tmp 13) (y := .const (.bool false)) (b := false) (v := .bool false) (by kernel_rfl) (by kernel_rfl) (by kernel_rfl)) <|
          .cons (d := some 15) (by kernel_rfl) (does_move (x := .tmp 14) (v := .bool false) (by kernel_rfl) (by kernel_rfl)) <|
          .cons (d := some 16) (by kernel_rfl) (does_move (x := .tmp 2) (v := .int .i64 b) (by kernel_rfl) (by kernel_rfl)) <|
          .cons (d := some 17) (by kernel_rfl) (does_move (x := .tmp 0) (v := .int .i64 n) (by kernel_rfl) (by kernel_rfl)) <|
          .cons (d := some 18) (by kernel_rfl) (does_bool (b' := false) (does_pure (v := .bool (decide (b ≤ n))) (by kernel_rfl) (fun w => by kernel_rfl) (by kernel_rfl)) (h4)) <|
          .cons (d := some 19) (by kernel_rfl) (does_move (x := .tmp 18) (v := .bool false) (by kernel_rfl) (by kernel_rfl)) <|
          .cons (d := some 20) (by kernel_rfl) (does_skipB (by kernel_rfl)) <|
          .cons (d := some 21) (by kernel_rfl) (does_skipB (by kernel_rfl)) <|
          .cons (d := some 22) (by kernel_rfl) (does_skipB (by kernel_rfl)) <|
          .cons (d := some 23) (by kernel_rfl) (does_pick (c := .tmp 19) (x := .tmp 22) (y := .const (.bool false)) (b := false) (v := .bool false) (by kernel_rfl) (by kernel_rfl) (by kernel_rfl)) <|
          .cons (d := some 24) (by kernel_rfl) (does_pick (c := .tmp 15) (x := .const (.bool true)) (y := .tmp 23) (b := false) (v := .bool false) (by kernel_rfl) (by kernel_rfl) (by kernel_rfl)) <|
          .cons (d := some 6) (by kernel_rfl) (does_assign (x := .tmp 24) (v := .bool false) (by kernel_rfl) (by kernel_rfl)) <|
          .nil _ _) ?_
      refine aw_ret (by kernel_rfl) ?_
      exact end_ret (vs := [.bool false]) (by kernel_rfl) (show (.bool false : Value) = (.bool (Sp.btw n a b)) from (congrArg Value.bool (show false = (Sp.btw n a b) from by (simp [Sp.btw, *])))) trivial

theorem rcross_in (ax ay bx b_y cx cy : Int) (axl : -1048576 ≤ ax) (axu : ax ≤ 1048576) (ayl : -1048576 ≤ ay) (ayu : ay ≤ 1048576) (bxl : -1048576 ≤ bx) (bxu : bx ≤ 1048576) (b_yl : -1048576 ≤ b_y) (b_yu : b_y ≤ 1048576) (cxl : -1048576 ≤ cx) (cxu : cx ≤ 1048576) (cyl : -1048576 ≤ cy) (cyu : cy ≤ 1048576) : AC Try.prog 36 0 [.agg #[.int .i64 ax, .int .i64 ay], .agg #[.int .i64 bx, .int .i64 b_y], .agg #[.int .i64 cx, .int .i64 cy]] [] (.int .i64 (Sp.crs ax ay bx b_y cx cy)) [] := by
  have h := rcross_ok ax ay bx b_y cx cy
  simp only [Sp.lim_id axl axu, Sp.lim_id ayl ayu, Sp.lim_id bxl bxu, Sp.lim_id b_yl b_yu, Sp.lim_id cxl cxu, Sp.lim_id cyl cyu] at h
  exact h

end Go.Proofs.Ytpfdihhlpegllaa.Am
