/-
  The walks of small functions of points, of the stream and of small.
-/
import Derived.Test.YtpfdihhlpegllaaProg
import Derived.Test.YtpfdihhlpegllaaAm7
import Derived.Test.YtpfdihhlpegllaaSp3
namespace Go.Proofs.Ytpfdihhlpegllaa.Am
open Go Go.Proofs
set_option maxRecDepth 100000
set_option maxHeartbeats 4000000
set_option linter.unusedVariables false
set_option linter.unusedSimpArgs false

theorem limit_ok (n m : Int) (h0 : 0 ≤ m) (h1 : m ≤ 4611686018427387904) :
    AC Try.prog 78 0 ([.int .i64 n, .int .i64 m]) [] (.int .i64 (Sp.lim m n)) [] := by
  refine ac_intro (fn := Try.f78) (c := bodyOf Try.f78) Try.func78 (by kernel_rfl) (by kernel_rfl) (by kernel_rfl) ?_
  intro w0 W pin
  refine aw_sub ?_
  refine aw_plain_seq (r := sub (bodyOf Try.f78) [false]) (y := sub (bodyOf Try.f78) [true]) (id := 0) (ops := regOps (sub (bodyOf Try.f78) [false])) (by kernel_rfl) (by kernel_rfl) (by kernel_rfl) (by kernel_rfl) (
      .cons (d := some 4) (by kernel_rfl) (does_assign (x := .const (.int .i64 0)) (v := .int .i64 0) (by kernel_rfl) (by kernel_rfl)) <|
      .nil _ _) ?_
  refine aw_weak (weak_b (T := [(0, .int .i64 n), (1, .int .i64 m), (4, .int .i64 0)]) (L := []) (by kernel_rfl) (by kernel_rfl) (by kernel_rfl)) ?_
  refine aw_plain_seq (r := sub (bodyOf Try.f78) [true, false]) (y := sub (bodyOf Try.f78) [true, true]) (id := 1) (ops := regOps (sub (bodyOf Try.f78) [true, false])) (by kernel_rfl) (by kernel_rfl) (by kernel_rfl) (by kernel_rfl) (
      .cons (d := some 5) (by kernel_rfl) (does_move (x := .tmp 1) (v := .int .i64 m) (by kernel_rfl) (by kernel_rfl)) <|
      .cons (d := some 6) (by kernel_rfl) (does_int (n' := 0 - m) (does_pure (v := .int .i64 (IntKind.wrap .i64 (0 - m))) (by kernel_rfl) (fun w => by kernel_rfl) (by kernel_rfl)) (wrap_i64 (by omega) (by omega))) <|
      .cons (d := some 7) (by kernel_rfl) (does_move (x := .tmp 0) (v := .int .i64 n) (by kernel_rfl) (by kernel_rfl)) <|
      .cons (d := some 8) (by kernel_rfl) (does_move (x := .tmp 1) (v := .int .i64 m) (by kernel_rfl) (by kernel_rfl)) <|
      .cons (d := some 9) (by kernel_rfl) (does_pure (v := .int .i64 (if m < n then m else n)) (by kernel_rfl) (fun w => by kernel_rfl) (by kernel_rfl)) <|
      .cons (d := some 10) (by kernel_rfl) (does_pure (v := .int .i64 (if (if m < n then m else n) > (0 - m) then (if m < n then m else n) else (0 - m))) (by kernel_rfl) (fun w => by kernel_rfl) (by kernel_rfl)) <|
      .cons (d := some 4) (by kernel_rfl) (does_assign (x := .tmp 10) (v := .int .i64 (if (if m < n then m else n) > (0 - m) then (if m < n then m else n) else (0 - m))) (by kernel_rfl) (by kernel_rfl)) <|
      .nil _ _) ?_
  refine aw_weak (weak_b (T := [(4, .int .i64 (if (if m < n then m else n) > (0 - m) then (if m < n then m else n) else (0 - m)))]) (L := []) (by kernel_rfl) (by kernel_rfl) (by kernel_rfl)) ?_
  refine aw_ret (by kernel_rfl) ?_
  exact end_ret (vs := [.int .i64 (if (if m < n then m else n) > (0 - m) then (if m < n then m else n) else (0 - m))]) (by kernel_rfl) (show (.int .i64 (if (if m < n then m else n) > (0 - m) then (if m < n then m else n) else (0 - m)) : Value) = (.int .i64 (Sp.lim m n)) from (congrArg (Value.int .i64) (show (if (if m < n then m else n) > (0 - m) then (if m < n then m else n) else (0 - m)) = (Sp.lim m n) from by (first | rfl | (simp only [Sp.lim, Sp.cmp, Sp.sgn]; (repeat' split) <;> omega))))) trivial

theorem clamp_ok (x y : Int) :
    AC Try.prog 32 0 ([.agg #[.int .i64 x, .int .i64 y]]) [] (.agg #[.int .i64 (Sp.lim 1048576 x), .int .i64 (Sp.lim 1048576 y)]) [] := by
  refine ac_intro (fn := Try.f32) (c := bodyOf Try.f32) Try.func32 (by kernel_rfl) (by kernel_rfl) (by kernel_rfl) ?_
  intro w0 W pin
  refine aw_sub ?_
  refine aw_plain_seq (r := sub (bodyOf Try.f32) [false]) (y := sub (bodyOf Try.f32) [true]) (id := 0) (ops := regOps (sub (bodyOf Try.f32) [false])) (by kernel_rfl) (by kernel_rfl) (by kernel_rfl) (by kernel_rfl) (
      .cons (d := some 1) (by kernel_rfl) (does_box (t := 24) (x := .tmp 0) (k := 1) (v := .agg #[.int .i64 x, .int .i64 y]) (cells := [.int .i64 x, .int .i64 y]) (by kernel_rfl) (by kernel_rfl) (by kernel_rfl) (by kernel_rfl)) <|
      .cons (d := some 2) (by kernel_rfl) (does_alloc (t := 24) (k := 2) (v := .agg #[.int .i64 0, .int .i64 0]) (cells := [.int .i64 0, .int .i64 0]) (by kernel_rfl) (by kernel_rfl) (by kernel_rfl) (by kernel_rfl) (by kernel_rfl)) <|
      .nil _ _) ?_
  refine aw_weak (weak_b (T := [(1, .pointer (some ⟨1, 0, none⟩)), (2, .pointer (some ⟨2, 0, none⟩))]) (L := [(1, ⟨[.int .i64 x, .int .i64 y], 24, true, 2⟩), (2, ⟨[.int .i64 0, .int .i64 0], 24, true, 2⟩)]) (by kernel_rfl) (by kernel_rfl) (by kernel_rfl)) ?_
  refine aw_draws_seq (r := sub (bodyOf Try.f32) [true, false]) (y := sub (bodyOf Try.f32) [true, true]) (id := 1) (ops := regOps (sub (bodyOf Try.f32) [true, false])) [[], [0], [0, 1], [], [3], [0, 1, 2, 3, 4], [0, 1, 2, 3, 4, 5], [0, 1, 2, 3, 4, 5, 6]] (by kernel_rfl) (by kernel_rfl) (by kernel_rfl) (by kernel_rfl) (by kernel_rfl) (by kernel_rfl) (
      .cons (d := some 3) (by kernel_rfl) (does_fieldAddr (s := 24) (x := .tmp 1) (f := 0) (k := 1) (off := 0) (d := 0) (by kernel_rfl) (by kernel_rfl) (by kernel_rfl)) <|
      .cons (d := some 4) (by kernel_rfl) (does_load (t := 3) (x := .tmp 3) (k := 1) (off := 0) (b := ⟨[.int .i64 x, .int .i64 y], 24, true, 2⟩) (v := .int .i64 x) (by kernel_rfl) (by kernel_rfl) (by kernel_rfl) (by kernel_rfl)) <|
      .cons (d := some 5) (by kernel_rfl) (does_call0 (x := .func 78) (ars := #[.tmp 4, .const (.int .i64 1048576)]) (ats := #[3, 3]) (g := 78) (vs := [.int .i64 x, .int .i64 1048576]) (v := .int .i64 (Sp.lim 1048576 x)) (by kernel_rfl) (by kernel_rfl) (by kernel_rfl) (by kernel_rfl) (limit_ok x 1048576 (by decide) (by decide)) (by kernel_rfl) (by kernel_rfl)) <|
      .cons (d := some 6) (by kernel_rfl) (does_fieldAddr (s := 24) (x := .tmp 1) (f := 1) (k := 1) (off := 0) (d := 1) (by kernel_rfl) (by kernel_rfl) (by kernel_rfl)) <|
      .cons (d := some 7) (by kernel_rfl) (does_load (t := 3) (x := .tmp 6) (k := 1) (off := 1) (b := ⟨[.int .i64 x, .int .i64 y], 24, true, 2⟩) (v := .int .i64 y) (by kernel_rfl) (by kernel_rfl) (by kernel_rfl) (by kernel_rfl)) <|
      .cons (d := some 8) (by kernel_rfl) (does_call0 (x := .func 78) (ars := #[.tmp 7, .const (.int .i64 1048576)]) (ats := #[3, 3]) (g := 78) (vs := [.int .i64 y, .int .i64 1048576]) (v := .int .i64 (Sp.lim 1048576 y)) (by kernel_rfl) (by kernel_rfl) (by kernel_rfl) (by kernel_rfl) (limit_ok y 1048576 (by decide) (by decide)) (by kernel_rfl) (by kernel_rfl)) <|
      .cons (d := some 9) (by kernel_rfl) (does_pure (v := .agg #[.int .i64 (Sp.lim 1048576 x), .int .i64 (Sp.lim 1048576 y)]) (by kernel_rfl) (fun w => by kernel_rfl) (by kernel_rfl)) <|
      .cons (d := none) (by kernel_rfl) (does_store (t := 24) (x := .tmp 2) (y := .tmp 9) (k := 2) (off := 0) (b := ⟨[.int .i64 0, .int .i64 0], 24, true, 2⟩) (v := .agg #[.int .i64 (Sp.lim 1048576 x), .int .i64 (Sp.lim 1048576 y)]) (cells := [.int .i64 (Sp.lim 1048576 x), .int .i64 (Sp.lim 1048576 y)]) (by kernel_rfl) (by kernel_rfl) (by kernel_rfl) (by kernel_rfl) rfl (by kernel_rfl) (by kernel_rfl) (by kernel_rfl) (by kernel_rfl)) <|
      .nil _ _) ?_
  refine aw_weak (weak_b (T := [(2, .pointer (some ⟨2, 0, none⟩))]) (L := [(2, ⟨[.int .i64 (Sp.lim 1048576 x), .int .i64 (Sp.lim 1048576 y)], 24, true, 2⟩)]) (by kernel_rfl) (by kernel_rfl) (by kernel_rfl)) ?_
  refine aw_ret (by kernel_rfl) ?_
  exact end_ret (vs := [.agg #[.int .i64 (Sp.lim 1048576 x), .int .i64 (Sp.lim 1048576 y)]]) (by kernel_rfl) (by kernel_rfl) trivial

theorem pok_ok (x y : Int) :
    AC Try.prog 30 0 ([.agg #[.int .i64 x, .int .i64 y]]) [] (.bool ((x == (Sp.lim 1048576 x)) && ((y == (Sp.lim 1048576 y)) && true))) [] := by
  refine ac_intro (fn := Try.f30) (c := bodyOf Try.f30) Try.func30 (by kernel_rfl) (by kernel_rfl) (by kernel_rfl) ?_
  intro w0 W pin
  refine aw_sub ?_
  refine aw_plain_seq (r := sub (bodyOf Try.f30) [false]) (y := sub (bodyOf Try.f30) [true]) (id := 0) (ops := regOps (sub (bodyOf Try.f30) [false])) (by kernel_rfl) (by kernel_rfl) (by kernel_rfl) (by kernel_rfl) (
      .cons (d := some 1) (by kernel_rfl) (does_box (t := 24) (x := .tmp 0) (k := 1) (v := .agg #[.int .i64 x, .int .i64 y]) (cells := [.int .i64 x, .int .i64 y]) (by kernel_rfl) (by kernel_rfl) (by kernel_rfl) (by kernel_rfl)) <|
      .cons (d := some 2) (by kernel_rfl) (does_assign (x := .const (.bool false)) (v := .bool false) (by kernel_rfl) (by kernel_rfl)) <|
      .nil _ _) ?_
  refine aw_weak (weak_b (T := [(1, .pointer (some ⟨1, 0, none⟩)), (2, .bool false)]) (L := [(1, ⟨[.int .i64 x, .int .i64 y], 24, true, 2⟩)]) (by kernel_rfl) (by kernel_rfl) (by kernel_rfl)) ?_
  refine aw_draws_seq (r := sub (bodyOf Try.f30) [true, false]) (y := sub (bodyOf Try.f30) [true, true]) (id := 1) (ops := regOps (sub (bodyOf Try.f30) [true, false])) [[], [], [1], [0, 1, 2], [0, 1, 2, 3]] (by kernel_rfl) (by kernel_rfl) (by kernel_rfl) (by kernel_rfl) (by kernel_rfl) (by kernel_rfl) (
      .cons (d := some 3) (by kernel_rfl) (does_load (t := 24) (x := .tmp 1) (k := 1) (off := 0) (b := ⟨[.int .i64 x, .int .i64 y], 24, true, 2⟩) (v := .agg #[.int .i64 x, .int .i64 y]) (by kernel_rfl) (by kernel_rfl) (by kernel_rfl) (by kernel_rfl)) <|
      .cons (d := some 4) (by kernel_rfl) (does_load (t := 24) (x := .tmp 1) (k := 1) (off := 0) (b := ⟨[.int .i64 x, .int .i64 y], 24, true, 2⟩) (v := .agg #[.int .i64 x, .int .i64 y]) (by kernel_rfl) (by kernel_rfl) (by kernel_rfl) (by kernel_rfl)) <|
      .cons (d := some 5) (by kernel_rfl) (does_call0 (x := .func 32) (ars := #[.tmp 4]) (ats := #[24]) (g := 32) (vs := [.agg #[.int .i64 x, .int .i64 y]]) (v := .agg #[.int .i64 (Sp.lim 1048576 x), .int .i64 (Sp.lim 1048576 y)]) (by kernel_rfl) (by kernel_rfl) (by kernel_rfl) (by kernel_rfl) (clamp_ok x y) (by kernel_rfl) (by kernel_rfl)) <|
      .cons (d := some 6) (by kernel_rfl) (does_eql (t := 24) (t2 := 24) (x := .tmp 3) (y := .tmp 5) (xs := #[.int .i64 x, .int .i64 y]) (ys := #[.int .i64 (Sp.lim 1048576 x), .int .i64 (Sp.lim 1048576 y)]) (b := ((x == (Sp.lim 1048576 x)) && ((y == (Sp.lim 1048576 y)) && true))) (by kernel_rfl) (by kernel_rfl) (by kernel_rfl) (by kernel_rfl) (by kernel_rfl) (by kernel_rfl) (by kernel_rfl)) <|
      .cons (d := some 2) (by kernel_rfl) (does_assign (x := .tmp 6) (v := .bool ((x == (Sp.lim 1048576 x)) && ((y == (Sp.lim 1048576 y)) && true))) (by kernel_rfl) (by kernel_rfl)) <|
      .nil _ _) ?_
  refine aw_weak (weak_b (T := [(2, .bool ((x == (Sp.lim 1048576 x)) && ((y == (Sp.lim 1048576 y)) && true)))]) (L := []) (by kernel_rfl) (by kernel_rfl) (by kernel_rfl)) ?_
  refine aw_ret (by kernel_rfl) ?_
  exact end_ret (vs := [.bool ((x == (Sp.lim 1048576 x)) && ((y == (Sp.lim 1048576 y)) && true))]) (by kernel_rfl) (by kernel_rfl) trivial

theorem isnan_ok (x : Int) :
    AC Try.prog 101 0 ([.int .i64 x]) [] (.bool false) [] := by
  refine ac_intro (fn := Try.f101) (c := bodyOf Try.f101) Try.func101 (by kernel_rfl) (by kernel_rfl) (by kernel_rfl) ?_
  intro w0 W pin
  refine aw_sub ?_
  refine aw_plain_seq (r := sub (bodyOf Try.f101) [false]) (y := sub (bodyOf Try.f101) [true]) (id := 0) (ops := regOps (sub (bodyOf Try.f101) [false])) (by kernel_rfl) (by kernel_rfl) (by kernel_rfl) (by kernel_rfl) (
      .cons (d := some 2) (by kernel_rfl) (does_assign (x := .const (.bool false)) (v := .bool false) (by kernel_rfl) (by kernel_rfl)) <|
      .nil _ _) ?_
  refine aw_weak (weak_b (T := [(0, .int .i64 x), (2, .bool false)]) (L := []) (by kernel_rfl) (by kernel_rfl) (by kernel_rfl)) ?_
  refine aw_plain_seq (r := sub (bodyOf Try.f101) [true, false]) (y := sub (bodyOf Try.f101) [true, true]) (id := 1) (ops := regOps (sub (bodyOf Try.f101) [true, false])) (by kernel_rfl) (by kernel_rfl) (by kernel_rfl) (by kernel_rfl) (
      .cons (d := some 3) (by kernel_rfl) (does_move (x := .tmp 0) (v := .int .i64 x) (by kernel_rfl) (by kernel_rfl)) <|
      .cons (d := some 4) (by kernel_rfl) (does_move (x := .tmp 0) (v := .int .i64 x) (by kernel_rfl) (by kernel_rfl)) <|
      .cons (d := some 5) (by kernel_rfl) (does_bool (b' := false) (does_pure (v := .bool (x != x)) (by kernel_rfl) (fun w => by kernel_rfl) (by kernel_rfl)) (by simp)) <|
      .cons (d := some 2) (by kernel_rfl) (does_assign (x := .tmp 5) (v := .bool false) (by kernel_rfl) (by kernel_rfl)) <|
      .nil _ _) ?_
  refine aw_weak (weak_b (T := [(2, .bool false)]) (L := []) (by kernel_rfl) (by kernel_rfl) (by kernel_rfl)) ?_
  refine aw_ret (by kernel_rfl) ?_
  exact end_ret (vs := [.bool false]) (by kernel_rfl) (by kernel_rfl) trivial

theorem compare_ok (x y : Int) :
    AC Try.prog 79 0 ([.int .i64 x, .int .i64 y]) [] (.int .i64 (Sp.cmp x y)) [] := by
  refine ac_intro (fn := Try.f79) (c := bodyOf Try.f79) Try.func79 (by kernel_rfl) (by kernel_rfl) (by kernel_rfl) ?_
  intro w0 W pin
  refine aw_sub ?_
  refine aw_plain_seq (r := sub (bodyOf Try.f79) [false]) (y := sub (bodyOf Try.f79) [true]) (id := 0) (ops := regOps (sub (bodyOf Try.f79) [false])) (by kernel_rfl) (by kernel_rfl) (by kernel_rfl) (by kernel_rfl) (
      .cons (d := some 4) (by kernel_rfl) (does_assign (x := .const (.int .i64 0)) (v := .int .i64 0) (by kernel_rfl) (by kernel_rfl)) <|
      .nil _ _) ?_
  refine aw_weak (weak_b (T := [(0, .int .i64 x), (1, .int .i64 y), (4, .int .i64 0)]) (L := []) (by kernel_rfl) (by kernel_rfl) (by kernel_rfl)) ?_
  refine aw_plain_seq (r := sub (bodyOf Try.f79) [true, false]) (y := sub (bodyOf Try.f79) [true, true]) (id := 1) (ops := regOps (sub (bodyOf Try.f79) [true, false])) (by kernel_rfl) (by kernel_rfl) (by kernel_rfl) (by kernel_rfl) (
      .cons (d := some 7) (by kernel_rfl) (does_move (x := .tmp 0) (v := .int .i64 x) (by kernel_rfl) (by kernel_rfl)) <|
      .cons (d := some 8) (by kernel_rfl) (does_call0 (x := .func 101) (ars := #[.tmp 7]) (ats := #[3]) (g := 101) (vs := [.int .i64 x]) (v := .bool false) (by kernel_rfl) (by kernel_rfl) (by kernel_rfl) (by kernel_rfl) (isnan_ok x) (by kernel_rfl) (by kernel_rfl)) <|
      .cons (d := some 5) (by kernel_rfl) (does_assign (x := .tmp 8) (v := .bool false) (by kernel_rfl) (by kernel_rfl)) <|
      .nil _ _) ?_
  refine aw_weak (weak_b (T := [(0, .int .i64 x), (1, .int .i64 y), (4, .int .i64 0), (5, .bool false)]) (L := []) (by kernel_rfl) (by kernel_rfl) (by kernel_rfl)) ?_
  refine aw_plain_seq (r := sub (bodyOf Try.f79) [true, true, false]) (y := sub (bodyOf Try.f79) [true, true, true]) (id := 2) (ops := regOps (sub (bodyOf Try.f79) [true, true, false])) (by kernel_rfl) (by kernel_rfl) (by kernel_rfl) (by kernel_rfl) (
      .cons (d := some 9) (by kernel_rfl) (does_move (x := .tmp 1) (v := .int .i64 y) (by kernel_rfl) (by kernel_rfl)) <|
      .cons (d := some 10) (by kernel_rfl) (does_call0 (x := .func 101) (ars := #[.tmp 9]) (ats := #[3]) (g := 101) (vs := [.int .i64 y]) (v := .bool false) (by kernel_rfl) (by kernel_rfl) (by kernel_rfl) (by kernel_rfl) (isnan_ok y) (by kernel_rfl) (by kernel_rfl)) <|
      .cons (d := some 6) (by kernel_rfl) (does_assign (x := .tmp 10) (v := .bool false) (by kernel_rfl) (by kernel_rfl)) <|
      .nil _ _) ?_
  refine aw_weak (weak_b (T := [(0, .int .i64 x), (1, .int .i64 y), (4, .int .i64 0), (5, .bool false), (6, .bool false)]) (L := []) (by kernel_rfl) (by kernel_rfl) (by kernel_rfl)) ?_
  refine aw_seq (x := sub (bodyOf Try.f79) [true, true, true, false]) (y := sub (bodyOf Try.f79) [true, true, true, true]) (by kernel_rfl) ?_
  refine aw_plain_seq (r := sub (bodyOf Try.f79) [true, true, true, false, false]) (y := sub (bodyOf Try.f79) [true, true, true, false, true]) (id := 3) (ops := regOps (sub (bodyOf Try.f79) [true, true, true, false, false])) (by kernel_rfl) (by kernel_rfl) (by kernel_rfl) (by kernel_rfl) (
      .cons (d := some 11) (by kernel_rfl) (does_move (x := .tmp 5) (v := .bool false) (by kernel_rfl) (by kernel_rfl)) <|
      .nil _ _) ?_
  refine aw_weak (weak_b (T := [(0, .int .i64 x), (1, .int .i64 y), (4, .int .i64 0), (6, .bool false), (11, .bool false)]) (L := []) (by kernel_rfl) (by kernel_rfl) (by kernel_rfl)) ?_
  refine aw_false (o := .tmp 11) (x := sub (bodyOf Try.f79) [true, true, true, false, true, false]) (y := sub (bodyOf Try.f79) [true, true, true, false, true, true]) (by kernel_rfl) (by kernel_rfl) ?_
  refine aw_skip (by kernel_rfl) ?_
  refine then_normal ?_
  refine aw_seq (x := sub (bodyOf Try.f79) [true, true, true, true, false]) (y := sub (bodyOf Try.f79) [true, true, true, true, true]) (by kernel_rfl) ?_
  refine aw_plain_seq (r := sub (bodyOf Try.f79) [true, true, true, true, false, false]) (y := sub (bodyOf Try.f79) [true, true, true, true, false, true]) (id := 7) (ops := regOps (sub (bodyOf Try.f79) [true, true, true, true, false, false])) (by kernel_rfl) (by kernel_rfl) (by kernel_rfl) (by kernel_rfl) (
      .cons (d := some 13) (by kernel_rfl) (does_move (x := .tmp 6) (v := .bool false) (by kernel_rfl) (by kernel_rfl)) <|
      .nil _ _) ?_
  refine aw_weak (weak_b (T := [(0, .int .i64 x), (1, .int .i64 y), (4, .int .i64 0), (6, .bool false), (11, .bool false), (13, .bool false)]) (L := []) (by kernel_rfl) (by kernel_rfl) (by kernel_rfl)) ?_
  refine aw_false (o := .tmp 13) (x := sub (bodyOf Try.f79) [true, true, true, true, false, true, false]) (y := sub (bodyOf Try.f79) [true, true, true, true, false, true, true]) (by kernel_rfl) (by kernel_rfl) ?_
  refine aw_skip (by kernel_rfl) ?_
  refine then_normal ?_
  refine aw_seq (x := sub (bodyOf Try.f79) [true, true, true, true, true, false]) (y := sub (bodyOf Try.f79) [true, true, true, true, true, true]) (by kernel_rfl) ?_
  refine aw_plain_seq (r := sub (bodyOf Try.f79) [true, true, true, true, true, false, false]) (y := sub (bodyOf Try.f79) [true, true, true, true, true, false, true]) (id := 9) (ops := regOps (sub (bodyOf Try.f79) [true, true, true, true, true, false, false])) (by kernel_rfl) (by kernel_rfl) (by kernel_rfl) (by kernel_rfl) (
      .cons (d := some 14) (by kernel_rfl) (does_move (x := .tmp 0) (v := .int .i64 x) (by kernel_rfl) (by kernel_rfl)) <|
      .cons (d := some 15) (by kernel_rfl) (does_move (x := .tmp 1) (v := .int .i64 y) (by kernel_rfl) (by kernel_rfl)) <|
      .cons (d := some 16) (by kernel_rfl) (does_pure (v := .bool (decide (x < y))) (by kernel_rfl) (fun w => by kernel_rfl) (by kernel_rfl)) <|
      .nil _ _) ?_
  refine aw_weak (weak_b (T := [(0, .int .i64 x), (1, .int .i64 y), (4, .int .i64 0), (6, .bool false), (11, .bool false), (13, .bool false), (16, .bool (decide (x < y)))]) (L := []) (by kernel_rfl) (by kernel_rfl) (by kernel_rfl)) ?_
  refine aw_cond (o := .tmp 16) (b := decide (x < y)) (x := sub (bodyOf Try.f79) [true, true, true, true, true, false, true, false]) (y := sub (bodyOf Try.f79) [true, true, true, true, true, false, true, true]) (by kernel_rfl) (by kernel_rfl) (fun h1 => ?_) (fun h1 => ?_)
  · have h1p : ((x < y)) := by first | (simpa using h1) | (have h1q := h1; simp at h1q; omega) | (have h1q := bx1 h1; simp at h1q; omega)
    refine aw_plain_seq (r := sub (bodyOf Try.f79) [true, true, true, true, true, false, true, false, false]) (y := sub (bodyOf Try.f79) [true, true, true, true, true, false, true, false, true]) (id := 10) (ops := regOps (sub (bodyOf Try.f79) [true, true, true, true, true, false, true, false, false])) (by kernel_rfl) (by kernel_rfl) (by kernel_rfl) (by kernel_rfl) (
        .cons (d := some 4) (by kernel_rfl) (does_assign (x := .const (.int .i64 (-1))) (v := .int .i64 (-1)) (by kernel_rfl) (by kernel_rfl)) <|
        .nil _ _) ?_
    refine aw_weak (weak_b (T := [(0, .int .i64 x), (1, .int .i64 y), (4, .int .i64 (-1)), (6, .bool false), (11, .bool false), (13, .bool false), (16, .bool (decide (x < y)))]) (L := []) (by kernel_rfl) (by kernel_rfl) (by kernel_rfl)) ?_
    refine aw_ret (by kernel_rfl) ?_
    refine then_ret ?_
    exact end_ret (vs := [.int .i64 (-1)]) (by kernel_rfl) (show (.int .i64 (-1) : Value) = (.int .i64 (Sp.cmp x y)) from (congrArg (Value.int .i64) (show (-1) = (Sp.cmp x y) from by (simp only [decide_eq_true_eq, decide_eq_false_iff_not] at *; simp only [Sp.lim, Sp.cmp, Sp.sgn]; (repeat' split) <;> omega)))) trivial
  · have h1p : ¬ ((x < y)) := by first | (simpa using h1) | (have h1q := h1; simp at h1q; omega) | (have h1q := bx2 h1; simp at h1q; omega)
    refine aw_skip (by kernel_rfl) ?_
    refine then_normal ?_
    refine aw_seq (x := sub (bodyOf Try.f79) [true, true, true, true, true, true, false]) (y := sub (bodyOf Try.f79) [true, true, true, true, true, true, true]) (by kernel_rfl) ?_
    refine aw_plain_seq (r := sub (bodyOf Try.f79) [true, true, true, true, true, true, false, false]) (y := sub (bodyOf Try.f79) [true, true, true, true, true, true, false, true]) (id := 11) (ops := regOps (sub (bodyOf Try.f79) [true, true, true, true, true, true, false, false])) (by kernel_rfl) (by kernel_rfl) (by kernel_rfl) (by kernel_rfl) (
        .cons (d := some 17) (by kernel_rfl) (does_move (x := .tmp 0) (v := .int .i64 x) (by kernel_rfl) (by kernel_rfl)) <|
        .cons (d := some 18) (by kernel_rfl) (does_move (x := .tmp 1) (v := .int .i64 y) (by kernel_rfl) (by kernel_rfl)) <|
        .cons (d := some 19) (by kernel_rfl) (does_pure (v := .bool (decide (x > y))) (by kernel_rfl) (fun w => by kernel_rfl) (by kernel_rfl)) <|
        .nil _ _) ?_
    refine aw_weak (weak_b (T := [(0, .int .i64 x), (1, .int .i64 y), (4, .int .i64 0), (6, .bool false), (11, .bool false), (13, .bool false), (16, .bool (decide (x < y))), (19, .bool (decide (x > y)))]) (L := []) (by kernel_rfl) (by kernel_rfl) (by kernel_rfl)) ?_
    refine aw_cond (o := .tmp 19) (b := decide (x > y)) (x := sub (bodyOf Try.f79) [true, true, true, true, true, true, false, true, false]) (y := sub (bodyOf Try.f79) [true, true, true, true, true, true, false, true, true]) (by kernel_rfl) (by kernel_rfl) (fun h2 => ?_) (fun h2 => ?_)
    · have h2p : ((x > y)) := by first | (simpa using h2) | (have h2q := h2; simp at h2q; omega) | (have h2q := bx1 h2; simp at h2q; omega)
      refine aw_plain_seq (r := sub (bodyOf Try.f79) [true, true, true, true, true, true, false, true, false, false]) (y := sub (bodyOf Try.f79) [true, true, true, true, true, true, false, true, false, true]) (id := 12) (ops := regOps (sub (bodyOf Try.f79) [true, true, true, true, true, true, false, true, false, false])) (by kernel_rfl) (by kernel_rfl) (by kernel_rfl) (by kernel_rfl) (
          .cons (d := some 4) (by kernel_rfl) (does_assign (x := .const (.int .i64 1)) (v := .int .i64 1) (by kernel_rfl) (by kernel_rfl)) <|
          .nil _ _) ?_
      refine aw_weak (weak_b (T := [(0, .int .i64 x), (1, .int .i64 y), (4, .int .i64 1), (6, .bool false), (11, .bool false), (13, .bool false), (16, .bool (decide (x < y))), (19, .bool (decide (x > y)))]) (L := []) (by kernel_rfl) (by kernel_rfl) (by kernel_rfl)) ?_
      refine aw_ret (by kernel_rfl) ?_
      refine then_ret ?_
      exact end_ret (vs := [.int .i64 1]) (by kernel_rfl) (show (.int .i64 1 : Value) = (.int .i64 (Sp.cmp x y)) from (congrArg (Value.int .i64) (show 1 = (Sp.cmp x y) from by (simp only [decide_eq_true_eq, decide_eq_false_iff_not] at *; simp only [Sp.lim, Sp.cmp, Sp.sgn]; (repeat' split) <;> omega)))) trivial
    · have h2p : ¬ ((x > y)) := by first | (simpa using h2) | (have h2q := h2; simp at h2q; omega) | (have h2q := bx2 h2; simp at h2q; omega)
      refine aw_skip (by kernel_rfl) ?_
      refine then_normal ?_
      refine aw_plain_seq (r := sub (bodyOf Try.f79) [true, true, true, true, true, true, true, false]) (y := sub (bodyOf Try.f79) [true, true, true, true, true, true, true, true]) (id := 13) (ops := regOps (sub (bodyOf Try.f79) [true, true, true, true, true, true, true, false])) (by kernel_rfl) (by kernel_rfl) (by kernel_rfl) (by kernel_rfl) (
          .cons (d := some 4) (by kernel_rfl) (does_assign (x := .const (.int .i64 0)) (v := .int .i64 0) (by kernel_rfl) (by kernel_rfl)) <|
          .nil _ _) ?_
      refine aw_weak (weak_b (T := [(0, .int .i64 x), (1, .int .i64 y), (4, .int .i64 0), (6, .bool false), (11, .bool false), (13, .bool false), (16, .bool (decide (x < y))), (19, .bool (decide (x > y)))]) (L := []) (by kernel_rfl) (by kernel_rfl) (by kernel_rfl)) ?_
      refine aw_ret (by kernel_rfl) ?_
      exact end_ret (vs := [.int .i64 0]) (by kernel_rfl) (show (.int .i64 0 : Value) = (.int .i64 (Sp.cmp x y)) from (congrArg (Value.int .i64) (show 0 = (Sp.cmp x y) from by (simp only [decide_eq_true_eq, decide_eq_false_iff_not] at *; simp only [Sp.lim, Sp.cmp, Sp.sgn]; (repeat' split) <;> omega)))) trivial

theorem below_ok (x n : Int) (h0 : 0 < n) (hz : n ≤ 9223372036854775807) :
    AC Try.prog 62 0 ([.int .i64 x, .int .i64 n]) [] (.int .i64 (x % n)) [] := by
  have hlo := Sp.tmod_lo (x := x) h0
  refine ac_intro (fn := Try.f62) (c := bodyOf Try.f62) Try.func62 (by kernel_rfl) (by kernel_rfl) (by kernel_rfl) ?_
  intro w0 W pin
  refine aw_sub ?_
  refine aw_plain_seq (r := sub (bodyOf Try.f62) [false]) (y := sub (bodyOf Try.f62) [true]) (id := 0) (ops := regOps (sub (bodyOf Try.f62) [false])) (by kernel_rfl) (by kernel_rfl) (by kernel_rfl) (by kernel_rfl) (
      .cons (d := some 4) (by kernel_rfl) (does_assign (x := .const (.int .i64 0)) (v := .int .i64 0) (by kernel_rfl) (by kernel_rfl)) <|
      .nil _ _) ?_
  refine aw_weak (weak_b (T := [(0, .int .i64 x), (1, .int .i64 n), (4, .int .i64 0)]) (L := []) (by kernel_rfl) (by kernel_rfl) (by kernel_rfl)) ?_
  refine aw_plain_seq (r := sub (bodyOf Try.f62) [true, false]) (y := sub (bodyOf Try.f62) [true, true]) (id := 1) (ops := regOps (sub (bodyOf Try.f62) [true, false])) (by kernel_rfl) (by kernel_rfl) (by kernel_rfl) (by kernel_rfl) (
      .cons (d := some 5) (by kernel_rfl) (does_move (x := .tmp 0) (v := .int .i64 x) (by kernel_rfl) (by kernel_rfl)) <|
      .cons (d := some 6) (by kernel_rfl) (does_move (x := .tmp 1) (v := .int .i64 n) (by kernel_rfl) (by kernel_rfl)) <|
      .cons (d := some 7) (by kernel_rfl) (does_rem (t := 3) (t2 := 3) (x := .tmp 5) (y := .tmp 6) (k := .i64) (a := x) (b := n) (by kernel_rfl) (by kernel_rfl) (by kernel_rfl) (by omega)) <|
      .cons (d := some 0) (by kernel_rfl) (does_assign (x := .tmp 7) (v := .int .i64 (Int.tmod x n)) (by kernel_rfl) (by kernel_rfl)) <|
      .nil _ _) ?_
  refine aw_weak (weak_b (T := [(0, .int .i64 (Int.tmod x n)), (1, .int .i64 n), (4, .int .i64 0)]) (L := []) (by kernel_rfl) (by kernel_rfl) (by kernel_rfl)) ?_
  refine aw_seq (x := sub (bodyOf Try.f62) [true, true, false]) (y := sub (bodyOf Try.f62) [true, true, true]) (by kernel_rfl) ?_
  refine aw_plain_seq (r := sub (bodyOf Try.f62) [true, true, false, false]) (y := sub (bodyOf Try.f62) [true, true, false, true]) (id := 2) (ops := regOps (sub (bodyOf Try.f62) [true, true, false, false])) (by kernel_rfl) (by kernel_rfl) (by kernel_rfl) (by kernel_rfl) (
      .cons (d := some 8) (by kernel_rfl) (does_move (x := .tmp 0) (v := .int .i64 (Int.tmod x n)) (by kernel_rfl) (by kernel_rfl)) <|
      .cons (d := some 9) (by kernel_rfl) (does_pure (v := .bool (decide ((Int.tmod x n) < 0))) (by kernel_rfl) (fun w => by kernel_rfl) (by kernel_rfl)) <|
      .nil _ _) ?_
  refine aw_weak (weak_b (T := [(0, .int .i64 (Int.tmod x n)), (1, .int .i64 n), (4, .int .i64 0), (9, .bool (decide ((Int.tmod x n) < 0)))]) (L := []) (by kernel_rfl) (by kernel_rfl) (by kernel_rfl)) ?_
  refine aw_cond (o := .tmp 9) (b := decide ((Int.tmod x n) < 0)) (x := sub (bodyOf Try.f62) [true, true, false, true, false]) (y := sub (bodyOf Try.f62) [true, true, false, true, true]) (by kernel_rfl) (by kernel_rfl) (fun h1 => ?_) (fun h1 => ?_)
  · have h1p : (((Int.tmod x n) < 0)) := by first | (simpa using h1) | (have h1q := h1; simp at h1q; omega) | (have h1q := bx1 h1; simp at h1q; omega)
    refine aw_plain (id := 3) (ops := regOps (sub (bodyOf Try.f62) [true, true, false, true, false])) (by kernel_rfl) (by kernel_rfl) (by kernel_rfl) (
        .cons (d := some 10) (by kernel_rfl) (does_move (x := .tmp 0) (v := .int .i64 (Int.tmod x n)) (by kernel_rfl) (by kernel_rfl)) <|
        .cons (d := some 11) (by kernel_rfl) (does_move (x := .tmp 1) (v := .int .i64 n) (by kernel_rfl) (by kernel_rfl)) <|
        .cons (d := some 12) (by kernel_rfl) (does_int (n' := (Int.tmod x n) + n) (does_pure (v := .int .i64 (IntKind.wrap .i64 ((Int.tmod x n) + n))) (by kernel_rfl) (fun w => by kernel_rfl) (by kernel_rfl)) (wrap_i64 (by omega) (by omega))) <|
        .cons (d := some 0) (by kernel_rfl) (does_assign (x := .tmp 12) (v := .int .i64 ((Int.tmod x n) + n)) (by kernel_rfl) (by kernel_rfl)) <|
        .nil _ _) ?_
    refine then_normal ?_
    refine aw_plain_seq (r := sub (bodyOf Try.f62) [true, true, true, false]) (y := sub (bodyOf Try.f62) [true, true, true, true]) (id := 4) (ops := regOps (sub (bodyOf Try.f62) [true, true, true, false])) (by kernel_rfl) (by kernel_rfl) (by kernel_rfl) (by kernel_rfl) (
        .cons (d := some 13) (by kernel_rfl) (does_move (x := .tmp 0) (v := .int .i64 ((Int.tmod x n) + n)) (by kernel_rfl) (by kernel_rfl)) <|
        .cons (d := some 4) (by kernel_rfl) (does_assign (x := .tmp 13) (v := .int .i64 ((Int.tmod x n) + n)) (by kernel_rfl) (by kernel_rfl)) <|
        .nil _ _) ?_
    refine aw_weak (weak_b (T := [(0, .int .i64 ((Int.tmod x n) + n)), (1, .int .i64 n), (4, .int .i64 ((Int.tmod x n) + n)), (9, .bool (decide ((Int.tmod x n) < 0)))]) (L := []) (by kernel_rfl) (by kernel_rfl) (by kernel_rfl)) ?_
    refine aw_ret (by kernel_rfl) ?_
    exact end_ret (vs := [.int .i64 ((Int.tmod x n) + n)]) (by kernel_rfl) (show (.int .i64 ((Int.tmod x n) + n) : Value) = (.int .i64 (x % n)) from (congrArg (Value.int .i64) (show ((Int.tmod x n) + n) = (x % n) from by (first | exact Sp.below_neg h0 (by assumption) | exact Sp.below_pos h0 (by omega))))) trivial
  · have h1p : ¬ (((Int.tmod x n) < 0)) := by first | (simpa using h1) | (have h1q := h1; simp at h1q; omega) | (have h1q := bx2 h1; simp at h1q; omega)
    refine aw_skip (by kernel_rfl) ?_
    refine then_normal ?_
    refine aw_plain_seq (r := sub (bodyOf Try.f62) [true, true, true, false]) (y := sub (bodyOf Try.f62) [true, true, true, true]) (id := 4) (ops := regOps (sub (bodyOf Try.f62) [true, true, true, false])) (by kernel_rfl) (by kernel_rfl) (by kernel_rfl) (by kernel_rfl) (
        .cons (d := some 13) (by kernel_rfl) (does_move (x := .tmp 0) (v := .int .i64 (Int.tmod x n)) (by kernel_rfl) (by kernel_rfl)) <|
        .cons (d := some 4) (by kernel_rfl) (does_assign (x := .tmp 13) (v := .int .i64 (Int.tmod x n)) (by kernel_rfl) (by kernel_rfl)) <|
        .nil _ _) ?_
    refine aw_weak (weak_b (T := [(0, .int .i64 (Int.tmod x n)), (1, .int .i64 n), (4, .int .i64 (Int.tmod x n)), (9, .bool (decide ((Int.tmod x n) < 0)))]) (L := []) (by kernel_rfl) (by kernel_rfl) (by kernel_rfl)) ?_
    refine aw_ret (by kernel_rfl) ?_
    exact end_ret (vs := [.int .i64 (Int.tmod x n)]) (by kernel_rfl) (show (.int .i64 (Int.tmod x n) : Value) = (.int .i64 (x % n)) from (congrArg (Value.int .i64) (show (Int.tmod x n) = (x % n) from by (first | exact Sp.below_neg h0 (by assumption) | exact Sp.below_pos h0 (by omega))))) trivial

theorem way_ok (ax ay bx b_y : Int) :
    AC Try.prog 80 0 ([.agg #[.int .i64 ax, .int .i64 ay], .agg #[.int .i64 bx, .int .i64 b_y]]) [] (.agg #[.int .i64 (Sp.lim 1048576 bx - Sp.lim 1048576 ax), .int .i64 (Sp.lim 1048576 b_y - Sp.lim 1048576 ay)]) [] := by
  have q1 := Sp.lim_bd (m := 1048576) (by decide) ax; have q2 := Sp.lim_bd (m := 1048576) (by decide) ay; have q3 := Sp.lim_bd (m := 1048576) (by decide) bx; have q4 := Sp.lim_bd (m := 1048576) (by decide) b_y
  refine ac_intro (fn := Try.f80) (c := bodyOf Try.f80) Try.func80 (by kernel_rfl) (by kernel_rfl) (by kernel_rfl) ?_
  intro w0 W pin
  refine aw_sub ?_
  refine aw_plain_seq (r := sub (bodyOf Try.f80) [false]) (y := sub (bodyOf Try.f80) [true]) (id := 0) (ops := regOps (sub (bodyOf Try.f80) [false])) (by kernel_rfl) (by kernel_rfl) (by kernel_rfl) (by kernel_rfl) (
      .cons (d := some 2) (by kernel_rfl) (does_box (t := 24) (x := .tmp 0) (k := 1) (v := .agg #[.int .i64 ax, .int .i64 ay]) (cells := [.int .i64 ax, .int .i64 ay]) (by kernel_rfl) (by kernel_rfl) (by kernel_rfl) (by kernel_rfl)) <|
      .cons (d := some 3) (by kernel_rfl) (does_box (t := 24) (x := .tmp 1) (k := 2) (v := .agg #[.int .i64 bx, .int .i64 b_y]) (cells := [.int .i64 bx, .int .i64 b_y]) (by kernel_rfl) (by kernel_rfl) (by kernel_rfl) (by kernel_rfl)) <|
      .cons (d := some 4) (by kernel_rfl) (does_alloc (t := 24) (k := 3) (v := .agg #[.int .i64 0, .int .i64 0]) (cells := [.int .i64 0, .int .i64 0]) (by kernel_rfl) (by kernel_rfl) (by kernel_rfl) (by kernel_rfl) (by kernel_rfl)) <|
      .nil _ _) ?_
  refine aw_weak (weak_b (T := [(2, .pointer (some ⟨1, 0, none⟩)), (3, .pointer (some ⟨2, 0, none⟩)), (4, .pointer (some ⟨3, 0, none⟩))]) (L := [(1, ⟨[.int .i64 ax, .int .i64 ay], 24, true, 2⟩), (2, ⟨[.int .i64 bx, .int .i64 b_y], 24, true, 2⟩), (3, ⟨[.int .i64 0, .int .i64 0], 24, true, 2⟩)]) (by kernel_rfl) (by kernel_rfl) (by kernel_rfl)) ?_
  refine aw_draws_seq (r := sub (bodyOf Try.f80) [true, false]) (y := sub (bodyOf Try.f80) [true, true]) (id := 1) (ops := regOps (sub (bodyOf Try.f80) [true, false])) [[], [0], [], [0, 1, 2], [0, 1, 2, 3], [0, 1, 2, 3, 4]] (by kernel_rfl) (by kernel_rfl) (by kernel_rfl) (by kernel_rfl) (by kernel_rfl) (by kernel_rfl) (
      .cons (d := some 5) (by kernel_rfl) (does_load (t := 24) (x := .tmp 2) (k := 1) (off := 0) (b := ⟨[.int .i64 ax, .int .i64 ay], 24, true, 2⟩) (v := .agg #[.int .i64 ax, .int .i64 ay]) (by kernel_rfl) (by kernel_rfl) (by kernel_rfl) (by kernel_rfl)) <|
      .cons (d := some 6) (by kernel_rfl) (does_call0 (x := .func 32) (ars := #[.tmp 5]) (ats := #[24]) (g := 32) (vs := [.agg #[.int .i64 ax, .int .i64 ay]]) (v := .agg #[.int .i64 (Sp.lim 1048576 ax), .int .i64 (Sp.lim 1048576 ay)]) (by kernel_rfl) (by kernel_rfl) (by kernel_rfl) (by kernel_rfl) (clamp_ok ax ay) (by kernel_rfl) (by kernel_rfl)) <|
      .cons (d := some 7) (by kernel_rfl) (does_load (t := 24) (x := .tmp 3) (k := 2) (off := 0) (b := ⟨[.int .i64 bx, .int .i64 b_y], 24, true, 2⟩) (v := .agg #[.int .i64 bx, .int .i64 b_y]) (by kernel_rfl) (by kernel_rfl) (by kernel_rfl) (by kernel_rfl)) <|
      .cons (d := some 8) (by kernel_rfl) (does_call0 (x := .func 32) (ars := #[.tmp 7]) (ats := #[24]) (g := 32) (vs := [.agg #[.int .i64 bx, .int .i64 b_y]]) (v := .agg #[.int .i64 (Sp.lim 1048576 bx), .int .i64 (Sp.lim 1048576 b_y)]) (by kernel_rfl) (by kernel_rfl) (by kernel_rfl) (by kernel_rfl) (clamp_ok bx b_y) (by kernel_rfl) (by kernel_rfl)) <|
      .cons (d := none) (by kernel_rfl) (does_store (t := 24) (x := .tmp 2) (y := .tmp 6) (k := 1) (off := 0) (b := ⟨[.int .i64 ax, .int .i64 ay], 24, true, 2⟩) (v := .agg #[.int .i64 (Sp.lim 1048576 ax), .int .i64 (Sp.lim 1048576 ay)]) (cells := [.int .i64 (Sp.lim 1048576 ax), .int .i64 (Sp.lim 1048576 ay)]) (by kernel_rfl) (by kernel_rfl) (by kernel_rfl) (by kernel_rfl) rfl (by kernel_rfl) (by kernel_rfl) (by kernel_rfl) (by kernel_rfl)) <|
      .cons (d := none) (by kernel_rfl) (does_store (t := 24) (x := .tmp 3) (y := .tmp 8) (k := 2) (off := 0) (b := ⟨[.int .i64 bx, .int .i64 b_y], 24, true, 2⟩) (v := .agg #[.int .i64 (Sp.lim 1048576 bx), .int .i64 (Sp.lim 1048576 b_y)]) (cells := [.int .i64 (Sp.lim 1048576 bx), .int .i64 (Sp.lim 1048576 b_y)]) (by kernel_rfl) (by kernel_rfl) (by kernel_rfl) (by kernel_rfl) rfl (by kernel_rfl) (by kernel_rfl) (by kernel_rfl) (by kernel_rfl)) <|
      .nil _ _) ?_
  refine aw_weak (weak_b (T := [(2, .pointer (some ⟨1, 0, none⟩)), (3, .pointer (some ⟨2, 0, none⟩)), (4, .pointer (some ⟨3, 0, none⟩))]) (L := [(1, ⟨[.int .i64 (Sp.lim 1048576 ax), .int .i64 (Sp.lim 1048576 ay)], 24, true, 2⟩), (2, ⟨[.int .i64 (Sp.lim 1048576 bx), .int .i64 (Sp.lim 1048576 b_y)], 24, true, 2⟩), (3, ⟨[.int .i64 0, .int .i64 0], 24, true, 2⟩)]) (by kernel_rfl) (by kernel_rfl) (by kernel_rfl)) ?_
  refine aw_plain_seq (r := sub (bodyOf Try.f80) [true, true, false]) (y := sub (bodyOf Try.f80) [true, true, true]) (id := 2) (ops := regOps (sub (bodyOf Try.f80) [true, true, false])) (by kernel_rfl) (by kernel_rfl) (by kernel_rfl) (by kernel_rfl) (
      .cons (d := some 9) (by kernel_rfl) (does_fieldAddr (s := 24) (x := .tmp 3) (f := 0) (k := 2) (off := 0) (d := 0) (by kernel_rfl) (by kernel_rfl) (by kernel_rfl)) <|
      .cons (d := some 10) (by kernel_rfl) (does_load (t := 3) (x := .tmp 9) (k := 2) (off := 0) (b := ⟨[.int .i64 (Sp.lim 1048576 bx), .int .i64 (Sp.lim 1048576 b_y)], 24, true, 2⟩) (v := .int .i64 (Sp.lim 1048576 bx)) (by kernel_rfl) (by kernel_rfl) (by kernel_rfl) (by kernel_rfl)) <|
      .cons (d := some 11) (by kernel_rfl) (does_fieldAddr (s := 24) (x := .tmp 2) (f := 0) (k := 1) (off := 0) (d := 0) (by kernel_rfl) (by kernel_rfl) (by kernel_rfl)) <|
      .cons (d := some 12) (by kernel_rfl) (does_load (t := 3) (x := .tmp 11) (k := 1) (off := 0) (b := ⟨[.int .i64 (Sp.lim 1048576 ax), .int .i64 (Sp.lim 1048576 ay)], 24, true, 2⟩) (v := .int .i64 (Sp.lim 1048576 ax)) (by kernel_rfl) (by kernel_rfl) (by kernel_rfl) (by kernel_rfl)) <|
      .cons (d := some 13) (by kernel_rfl) (does_int (n' := (Sp.lim 1048576 bx) - (Sp.lim 1048576 ax)) (does_pure (v := .int .i64 (IntKind.wrap .i64 ((Sp.lim 1048576 bx) - (Sp.lim 1048576 ax)))) (by kernel_rfl) (fun w => by kernel_rfl) (by kernel_rfl)) (wrap_i64 (by omega) (by omega))) <|
      .cons (d := some 14) (by kernel_rfl) (does_fieldAddr (s := 24) (x := .tmp 3) (f := 1) (k := 2) (off := 0) (d := 1) (by kernel_rfl) (by kernel_rfl) (by kernel_rfl)) <|
      .cons (d := some 15) (by kernel_rfl) (does_load (t := 3) (x := .tmp 14) (k := 2) (off := 1) (b := ⟨[.int .i64 (Sp.lim 1048576 bx), .int .i64 (Sp.lim 1048576 b_y)], 24, true, 2⟩) (v := .int .i64 (Sp.lim 1048576 b_y)) (by kernel_rfl) (by kernel_rfl) (by kernel_rfl) (by kernel_rfl)) <|
      .cons (d := some 16) (by kernel_rfl) (does_fieldAddr (s := 24) (x := .tmp 2) (f := 1) (k := 1) (off := 0) (d := 1) (by kernel_rfl) (by kernel_rfl) (by kernel_rfl)) <|
      .cons (d := some 17) (by kernel_rfl) (does_load (t := 3) (x := .tmp 16) (k := 1) (off := 1) (b := ⟨[.int .i64 (Sp.lim 1048576 ax), .int .i64 (Sp.lim 1048576 ay)], 24, true, 2⟩) (v := .int .i64 (Sp.lim 1048576 ay)) (by kernel_rfl) (by kernel_rfl) (by kernel_rfl) (by kernel_rfl)) <|
      .cons (d := some 18) (by kernel_rfl) (does_int (n' := (Sp.lim 1048576 b_y) - (Sp.lim 1048576 ay)) (does_pure (v := .int .i64 (IntKind.wrap .i64 ((Sp.lim 1048576 b_y) - (Sp.lim 1048576 ay)))) (by kernel_rfl) (fun w => by kernel_rfl) (by kernel_rfl)) (wrap_i64 (by omega) (by omega))) <|
      .cons (d := some 19) (by kernel_rfl) (does_pure (v := .agg #[.int .i64 ((Sp.lim 1048576 bx) - (Sp.lim 1048576 ax)), .int .i64 ((Sp.lim 1048576 b_y) - (Sp.lim 1048576 ay))]) (by kernel_rfl) (fun w => by kernel_rfl) (by kernel_rfl)) <|
      .cons (d := none) (by kernel_rfl) (does_store (t := 24) (x := .tmp 4) (y := .tmp 19) (k := 3) (off := 0) (b := ⟨[.int .i64 0, .int .i64 0], 24, true, 2⟩) (v := .agg #[.int .i64 ((Sp.lim 1048576 bx) - (Sp.lim 1048576 ax)), .int .i64 ((Sp.lim 1048576 b_y) - (Sp.lim 1048576 ay))]) (cells := [.int .i64 ((Sp.lim 1048576 bx) - (Sp.lim 1048576 ax)), .int .i64 ((Sp.lim 1048576 b_y) - (Sp.lim 1048576 ay))]) (by kernel_rfl) (by kernel_rfl) (by kernel_rfl) (by kernel_rfl) rfl (by kernel_rfl) (by kernel_rfl) (by kernel_rfl) (by kernel_rfl)) <|
      .nil _ _) ?_
  refine aw_weak (weak_b (T := [(2, .pointer (some ⟨1, 0, none⟩)), (3, .pointer (some ⟨2, 0, none⟩)), (4, .pointer (some ⟨3, 0, none⟩))]) (L := [(1, ⟨[.int .i64 (Sp.lim 1048576 ax), .int .i64 (Sp.lim 1048576 ay)], 24, true, 2⟩), (2, ⟨[.int .i64 (Sp.lim 1048576 bx), .int .i64 (Sp.lim 1048576 b_y)], 24, true, 2⟩), (3, ⟨[.int .i64 ((Sp.lim 1048576 bx) - (Sp.lim 1048576 ax)), .int .i64 ((Sp.lim 1048576 b_y) - (Sp.lim 1048576 ay))], 24, true, 2⟩)]) (by kernel_rfl) (by kernel_rfl) (by kernel_rfl)) ?_
  refine aw_ret (by kernel_rfl) ?_
  exact end_ret (vs := [.agg #[.int .i64 ((Sp.lim 1048576 bx) - (Sp.lim 1048576 ax)), .int .i64 ((Sp.lim 1048576 b_y) - (Sp.lim 1048576 ay))]]) (by kernel_rfl) (show (.agg #[.int .i64 ((Sp.lim 1048576 bx) - (Sp.lim 1048576 ax)), .int .i64 ((Sp.lim 1048576 b_y) - (Sp.lim 1048576 ay))] : Value) = (.agg #[.int .i64 (Sp.lim 1048576 bx - Sp.lim 1048576 ax), .int .i64 (Sp.lim 1048576 b_y - Sp.lim 1048576 ay)]) from (congrArg (fun z : List Value => Value.agg z.toArray) (lcons (congrArg (Value.int .i64) (show ((Sp.lim 1048576 bx) - (Sp.lim 1048576 ax)) = (Sp.lim 1048576 bx - Sp.lim 1048576 ax) from by rfl)) (lcons (congrArg (Value.int .i64) (show ((Sp.lim 1048576 b_y) - (Sp.lim 1048576 ay)) = (Sp.lim 1048576 b_y - Sp.lim 1048576 ay) from by rfl)) rfl)))) trivial

theorem cross_ok (ax ay bx b_y cx cy : Int) :
    AC Try.prog 35 0 ([.agg #[.int .i64 ax, .int .i64 ay], .agg #[.int .i64 bx, .int .i64 b_y], .agg #[.int .i64 cx, .int .i64 cy]]) [] (.int .i64 (Sp.crs (Sp.lim 1048576 ax) (Sp.lim 1048576 ay) (Sp.lim 1048576 bx) (Sp.lim 1048576 b_y) (Sp.lim 1048576 cx) (Sp.lim 1048576 cy))) [] := by
  have qax := Sp.lim_bd (m := 1048576) (by decide) ax; have qay := Sp.lim_bd (m := 1048576) (by decide) ay; have qbx := Sp.lim_bd (m := 1048576) (by decide) bx; have qb_y := Sp.lim_bd (m := 1048576) (by decide) b_y; have qcx := Sp.lim_bd (m := 1048576) (by decide) cx; have qcy := Sp.lim_bd (m := 1048576) (by decide) cy; have p0 := Sp.mul_bd (a := Sp.lim 1048576 bx - Sp.lim 1048576 ax) (b := Sp.lim 1048576 cy - Sp.lim 1048576 ay) (A := 2097152) (B := 2097152) (by omega) (by omega) (by omega) (by omega); have p1 := Sp.mul_bd (a := Sp.lim 1048576 b_y - Sp.lim 1048576 ay) (b := Sp.lim 1048576 cx - Sp.lim 1048576 ax) (A := 2097152) (B := 2097152) (by omega) (by omega) (by omega) (by omega)
  refine ac_intro (fn := Try.f35) (c := bodyOf Try.f35) Try.func35 (by kernel_rfl) (by kernel_rfl) (by kernel_rfl) ?_
  intro w0 W pin
  refine aw_sub ?_
  refine aw_plain_seq (r := sub (bodyOf Try.f35) [false]) (y := sub (bodyOf Try.f35) [true]) (id := 0) (ops := regOps (sub (bodyOf Try.f35) [false])) (by kernel_rfl) (by kernel_rfl) (by kernel_rfl) (by kernel_rfl) (
      .cons (d := some 3) (by kernel_rfl) (does_box (t := 24) (x := .tmp 0) (k := 1) (v := .agg #[.int .i64 ax, .int .i64 ay]) (cells := [.int .i64 ax, .int .i64 ay]) (by kernel_rfl) (by kernel_rfl) (by kernel_rfl) (by kernel_rfl)) <|
      .cons (d := some 4) (by kernel_rfl) (does_box (t := 24) (x := .tmp 1) (k := 2) (v := .agg #[.int .i64 bx, .int .i64 b_y]) (cells := [.int .i64 bx, .int .i64 b_y]) (by kernel_rfl) (by kernel_rfl) (by kernel_rfl) (by kernel_rfl)) <|
      .cons (d := some 5) (by kernel_rfl) (does_box (t := 24) (x := .tmp 2) (k := 3) (v := .agg #[.int .i64 cx, .int .i64 cy]) (cells := [.int .i64 cx, .int .i64 cy]) (by kernel_rfl) (by kernel_rfl) (by kernel_rfl) (by kernel_rfl)) <|
      .cons (d := some 6) (by kernel_rfl) (does_assign (x := .const (.int .i64 0)) (v := .int .i64 0) (by kernel_rfl) (by kernel_rfl)) <|
      .nil _ _) ?_
  refine aw_weak (weak_b (T := [(3, .pointer (some ⟨1, 0, none⟩)), (4, .pointer (some ⟨2, 0, none⟩)), (5, .pointer (some ⟨3, 0, none⟩)), (6, .int .i64 0)]) (L := [(1, ⟨[.int .i64 ax, .int .i64 ay], 24, true, 2⟩), (2, ⟨[.int .i64 bx, .int .i64 b_y], 24, true, 2⟩), (3, ⟨[.int .i64 cx, .int .i64 cy], 24, true, 2⟩)]) (by kernel_rfl) (by kernel_rfl) (by kernel_rfl)) ?_
  refine aw_draws_seq (r := sub (bodyOf Try.f35) [true, false]) (y := sub (bodyOf Try.f35) [true, true]) (id := 1) (ops := regOps (sub (bodyOf Try.f35) [true, false])) [[], [], [0, 1], [], [], [0, 1, 2, 3, 4], [], [], [0, 1, 2, 3, 4, 5, 6, 7], [0, 1, 2, 3, 4, 5, 6, 7, 8]] (by kernel_rfl) (by kernel_rfl) (by kernel_rfl) (by kernel_rfl) (by kernel_rfl) (by kernel_rfl) (
      .cons (d := some 9) (by kernel_rfl) (does_load (t := 24) (x := .tmp 3) (k := 1) (off := 0) (b := ⟨[.int .i64 ax, .int .i64 ay], 24, true, 2⟩) (v := .agg #[.int .i64 ax, .int .i64 ay]) (by kernel_rfl) (by kernel_rfl) (by kernel_rfl) (by kernel_rfl)) <|
      .cons (d := some 10) (by kernel_rfl) (does_load (t := 24) (x := .tmp 4) (k := 2) (off := 0) (b := ⟨[.int .i64 bx, .int .i64 b_y], 24, true, 2⟩) (v := .agg #[.int .i64 bx, .int .i64 b_y]) (by kernel_rfl) (by kernel_rfl) (by kernel_rfl) (by kernel_rfl)) <|
      .cons (d := some 11) (by kernel_rfl) (does_call0 (x := .func 80) (ars := #[.tmp 9, .tmp 10]) (ats := #[24, 24]) (g := 80) (vs := [.agg #[.int .i64 ax, .int .i64 ay], .agg #[.int .i64 bx, .int .i64 b_y]]) (v := .agg #[.int .i64 (Sp.lim 1048576 bx - Sp.lim 1048576 ax), .int .i64 (Sp.lim 1048576 b_y - Sp.lim 1048576 ay)]) (by kernel_rfl) (by kernel_rfl) (by kernel_rfl) (by kernel_rfl) (way_ok ax ay bx b_y) (by kernel_rfl) (by kernel_rfl)) <|
      .cons (d := some 12) (by kernel_rfl) (does_load (t := 24) (x := .tmp 3) (k := 1) (off := 0) (b := ⟨[.int .i64 ax, .int .i64 ay], 24, true, 2⟩) (v := .agg #[.int .i64 ax, .int .i64 ay]) (by kernel_rfl) (by kernel_rfl) (by kernel_rfl) (by kernel_rfl)) <|
      .cons (d := some 13) (by kernel_rfl) (does_load (t := 24) (x := .tmp 5) (k := 3) (off := 0) (b := ⟨[.int .i64 cx, .int .i64 cy], 24, true, 2⟩) (v := .agg #[.int .i64 cx, .int .i64 cy]) (by kernel_rfl) (by kernel_rfl) (by kernel_rfl) (by kernel_rfl)) <|
      .cons (d := some 14) (by kernel_rfl) (does_call0 (x := .func 80) (ars := #[.tmp 12, .tmp 13]) (ats := #[24, 24]) (g := 80) (vs := [.agg #[.int .i64 ax, .int .i64 ay], .agg #[.int .i64 cx, .int .i64 cy]]) (v := .agg #[.int .i64 (Sp.lim 1048576 cx - Sp.lim 1048576 ax), .int .i64 (Sp.lim 1048576 cy - Sp.lim 1048576 ay)]) (by kernel_rfl) (by kernel_rfl) (by kernel_rfl) (by kernel_rfl) (way_ok ax ay cx cy) (by kernel_rfl) (by kernel_rfl)) <|
      .cons (d := some 7) (by kernel_rfl) (does_alloc (t := 24) (k := 4) (v := .agg #[.int .i64 0, .int .i64 0]) (cells := [.int .i64 0, .int .i64 0]) (by kernel_rfl) (by kernel_rfl) (by kernel_rfl) (by kernel_rfl) (by kernel_rfl)) <|
      .cons (d := some 8) (by kernel_rfl) (does_alloc (t := 24) (k := 5) (v := .agg #[.int .i64 0, .int .i64 0]) (cells := [.int .i64 0, .int .i64 0]) (by kernel_rfl) (by kernel_rfl) (by kernel_rfl) (by kernel_rfl) (by kernel_rfl)) <|
      .cons (d := none) (by kernel_rfl) (does_store (t := 24) (x := .tmp 7) (y := .tmp 11) (k := 4) (off := 0) (b := ⟨[.int .i64 0, .int .i64 0], 24, true, 2⟩) (v := .agg #[.int .i64 (Sp.lim 1048576 bx - Sp.lim 1048576 ax), .int .i64 (Sp.lim 1048576 b_y - Sp.lim 1048576 ay)]) (cells := [.int .i64 (Sp.lim 1048576 bx - Sp.lim 1048576 ax), .int .i64 (Sp.lim 1048576 b_y - Sp.lim 1048576 ay)]) (by kernel_rfl) (by kernel_rfl) (by kernel_rfl) (by kernel_rfl) rfl (by kernel_rfl) (by kernel_rfl) (by kernel_rfl) (by kernel_rfl)) <|
      .cons (d := none) (by kernel_rfl) (does_store (t := 24) (x := .tmp 8) (y := .tmp 14) (k := 5) (off := 0) (b := ⟨[.int .i64 0, .int .i64 0], 24, true, 2⟩) (v := .agg #[.int .i64 (Sp.lim 1048576 cx - Sp.lim 1048576 ax), .int .i64 (Sp.lim 1048576 cy - Sp.lim 1048576 ay)]) (cells := [.int .i64 (Sp.lim 1048576 cx - Sp.lim 1048576 ax), .int .i64 (Sp.lim 1048576 cy - Sp.lim 1048576 ay)]) (by kernel_rfl) (by kernel_rfl) (by kernel_rfl) (by kernel_rfl) rfl (by kernel_rfl) (by kernel_rfl) (by kernel_rfl) (by kernel_rfl)) <|
      .nil _ _) ?_
  refine aw_weak (weak_b (T := [(6, .int .i64 0), (7, .pointer (some ⟨4, 0, none⟩)), (8, .pointer (some ⟨5, 0, none⟩))]) (L := [(4, ⟨[.int .i64 (Sp.lim 1048576 bx - Sp.lim 1048576 ax), .int .i64 (Sp.lim 1048576 b_y - Sp.lim 1048576 ay)], 24, true, 2⟩), (5, ⟨[.int .i64 (Sp.lim 1048576 cx - Sp.lim 1048576 ax), .int .i64 (Sp.lim 1048576 cy - Sp.lim 1048576 ay)], 24, true, 2⟩)]) (by kernel_rfl) (by kernel_rfl) (by kernel_rfl)) ?_
  refine aw_plain_seq (r := sub (bodyOf Try.f35) [true, true, false]) (y := sub (bodyOf Try.f35) [true, true, true]) (id := 2) (ops := regOps (sub (bodyOf Try.f35) [true, true, false])) (by kernel_rfl) (by kernel_rfl) (by kernel_rfl) (by kernel_rfl) (
      .cons (d := some 15) (by kernel_rfl) (does_fieldAddr (s := 24) (x := .tmp 7) (f := 0) (k := 4) (off := 0) (d := 0) (by kernel_rfl) (by kernel_rfl) (by kernel_rfl)) <|
      .cons (d := some 16) (by kernel_rfl) (does_load (t := 3) (x := .tmp 15) (k := 4) (off := 0) (b := ⟨[.int .i64 (Sp.lim 1048576 bx - Sp.lim 1048576 ax), .int .i64 (Sp.lim 1048576 b_y - Sp.lim 1048576 ay)], 24, true, 2⟩) (v := .int .i64 (Sp.lim 1048576 bx - Sp.lim 1048576 ax)) (by kernel_rfl) (by kernel_rfl) (by kernel_rfl) (by kernel_rfl)) <|
      .cons (d := some 17) (by kernel_rfl) (does_fieldAddr (s := 24) (x := .tmp 8) (f := 1) (k := 5) (off := 0) (d := 1) (by kernel_rfl) (by kernel_rfl) (by kernel_rfl)) <|
      .cons (d := some 18) (by kernel_rfl) (does_load (t := 3) (x := .tmp 17) (k := 5) (off := 1) (b := ⟨[.int .i64 (Sp.lim 1048576 cx - Sp.lim 1048576 ax), .int .i64 (Sp.lim 1048576 cy - Sp.lim 1048576 ay)], 24, true, 2⟩) (v := .int .i64 (Sp.lim 1048576 cy - Sp.lim 1048576 ay)) (by kernel_rfl) (by kernel_rfl) (by kernel_rfl) (by kernel_rfl)) <|
      .cons (d := some 19) (by kernel_rfl) (does_int (n' := (Sp.lim 1048576 bx - Sp.lim 1048576 ax) * (Sp.lim 1048576 cy - Sp.lim 1048576 ay)) (does_pure (v := .int .i64 (IntKind.wrap .i64 ((Sp.lim 1048576 bx - Sp.lim 1048576 ax) * (Sp.lim 1048576 cy - Sp.lim 1048576 ay)))) (by kernel_rfl) (fun w => by kernel_rfl) (by kernel_rfl)) (wrap_i64 (by omega) (by omega))) <|
      .cons (d := some 20) (by kernel_rfl) (does_fieldAddr (s := 24) (x := .tmp 7) (f := 1) (k := 4) (off := 0) (d := 1) (by kernel_rfl) (by kernel_rfl) (by kernel_rfl)) <|
      .cons (d := some 21) (by kernel_rfl) (does_load (t := 3) (x := .tmp 20) (k := 4) (off := 1) (b := ⟨[.int .i64 (Sp.lim 1048576 bx - Sp.lim 1048576 ax), .int .i64 (Sp.lim 1048576 b_y - Sp.lim 1048576 ay)], 24, true, 2⟩) (v := .int .i64 (Sp.lim 1048576 b_y - Sp.lim 1048576 ay)) (by kernel_rfl) (by kernel_rfl) (by kernel_rfl) (by kernel_rfl)) <|
      .cons (d := some 22) (by kernel_rfl) (does_fieldAddr (s := 24) (x := .tmp 8) (f := 0) (k := 5) (off := 0) (d := 0) (by kernel_rfl) (by kernel_rfl) (by kernel_rfl)) <|
      .cons (d := some 23) (by kernel_rfl) (does_load (t := 3) (x := .tmp 22) (k := 5) (off := 0) (b := ⟨[.int .i64 (Sp.lim 1048576 cx - Sp.lim 1048576 ax), .int .i64 (Sp.lim 1048576 cy - Sp.lim 1048576 ay)], 24, true, 2⟩) (v := .int .i64 (Sp.lim 1048576 cx - Sp.lim 1048576 ax)) (by kernel_rfl) (by kernel_rfl) (by kernel_rfl) (by kernel_rfl)) <|
      .cons (d := some 24) (by kernel_rfl) (does_int (n' := (Sp.lim 1048576 b_y - Sp.lim 1048576 ay) * (Sp.lim 1048576 cx - Sp.lim 1048576 ax)) (does_pure (v := .int .i64 (IntKind.wrap .i64 ((Sp.lim 1048576 b_y - Sp.lim 1048576 ay) * (Sp.lim 1048576 cx - Sp.lim 1048576 ax)))) (by kernel_rfl) (fun w => by kernel_rfl) (by kernel_rfl)) (wrap_i64 (by omega) (by omega))) <|
      .cons (d := some 25) (by kernel_rfl) (does_int (n' := ((Sp.lim 1048576 bx - Sp.lim 1048576 ax) * (Sp.lim 1048576 cy - Sp.lim 1048576 ay)) - ((Sp.lim 1048576 b_y - Sp.lim 1048576 ay) * (Sp.lim 1048576 cx - Sp.lim 1048576 ax))) (does_pure (v := .int .i64 (IntKind.wrap .i64 (((Sp.lim 1048576 bx - Sp.lim 1048576 ax) * (Sp.lim 1048576 cy - Sp.lim 1048576 ay)) - ((Sp.lim 1048576 b_y - Sp.lim 1048576 ay) * (Sp.lim 1048576 cx - Sp.lim 1048576 ax))))) (by kernel_rfl) (fun w => by kernel_rfl) (by kernel_rfl)) (wrap_i64 (by omega) (by omega))) <|
      .cons (d := some 6) (by kernel_rfl) (does_assign (x := .tmp 25) (v := .int .i64 (((Sp.lim 1048576 bx - Sp.lim 1048576 ax) * (Sp.lim 1048576 cy - Sp.lim 1048576 ay)) - ((Sp.lim 1048576 b_y - Sp.lim 1048576 ay) * (Sp.lim 1048576 cx - Sp.lim 1048576 ax)))) (by kernel_rfl) (by kernel_rfl)) <|
      .nil _ _) ?_
  refine aw_weak (weak_b (T := [(6, .int .i64 (((Sp.lim 1048576 bx - Sp.lim 1048576 ax) * (Sp.lim 1048576 cy - Sp.lim 1048576 ay)) - ((Sp.lim 1048576 b_y - Sp.lim 1048576 ay) * (Sp.lim 1048576 cx - Sp.lim 1048576 ax)))), (7, .pointer (some ⟨4, 0, none⟩)), (8, .pointer (some ⟨5, 0, none⟩))]) (L := [(4, ⟨[.int .i64 (Sp.lim 1048576 bx - Sp.lim 1048576 ax), .int .i64 (Sp.lim 1048576 b_y - Sp.lim 1048576 ay)], 24, true, 2⟩), (5, ⟨[.int .i64 (Sp.lim 1048576 cx - Sp.lim 1048576 ax), .int .i64 (Sp.lim 1048576 cy - Sp.lim 1048576 ay)], 24, true, 2⟩)]) (by kernel_rfl) (by kernel_rfl) (by kernel_rfl)) ?_
  refine aw_ret (by kernel_rfl) ?_
  exact end_ret (vs := [.int .i64 (((Sp.lim 1048576 bx - Sp.lim 1048576 ax) * (Sp.lim 1048576 cy - Sp.lim 1048576 ay)) - ((Sp.lim 1048576 b_y - Sp.lim 1048576 ay) * (Sp.lim 1048576 cx - Sp.lim 1048576 ax)))]) (by kernel_rfl) (show (.int .i64 (((Sp.lim 1048576 bx - Sp.lim 1048576 ax) * (Sp.lim 1048576 cy - Sp.lim 1048576 ay)) - ((Sp.lim 1048576 b_y - Sp.lim 1048576 ay) * (Sp.lim 1048576 cx - Sp.lim 1048576 ax))) : Value) = (.int .i64 (Sp.crs (Sp.lim 1048576 ax) (Sp.lim 1048576 ay) (Sp.lim 1048576 bx) (Sp.lim 1048576 b_y) (Sp.lim 1048576 cx) (Sp.lim 1048576 cy))) from (congrArg (Value.int .i64) (show (((Sp.lim 1048576 bx - Sp.lim 1048576 ax) * (Sp.lim 1048576 cy - Sp.lim 1048576 ay)) - ((Sp.lim 1048576 b_y - Sp.lim 1048576 ay) * (Sp.lim 1048576 cx - Sp.lim 1048576 ax))) = (Sp.crs (Sp.lim 1048576 ax) (Sp.lim 1048576 ay) (Sp.lim 1048576 bx) (Sp.lim 1048576 b_y) (Sp.lim 1048576 cx) (Sp.lim 1048576 cy)) from by rfl))) trivial

theorem dot_ok (ax ay bx b_y cx cy : Int) :
    AC Try.prog 37 0 ([.agg #[.int .i64 ax, .int .i64 ay], .agg #[.int .i64 bx, .int .i64 b_y], .agg #[.int .i64 cx, .int .i64 cy]]) [] (.int .i64 (Sp.dot (Sp.lim 1048576 ax) (Sp.lim 1048576 ay) (Sp.lim 1048576 bx) (Sp.lim 1048576 b_y) (Sp.lim 1048576 cx) (Sp.lim 1048576 cy))) [] := by
  have qax := Sp.lim_bd (m := 1048576) (by decide) ax; have qay := Sp.lim_bd (m := 1048576) (by decide) ay; have qbx := Sp.lim_bd (m := 1048576) (by decide) bx; have qb_y := Sp.lim_bd (m := 1048576) (by decide) b_y; have qcx := Sp.lim_bd (m := 1048576) (by decide) cx; have qcy := Sp.lim_bd (m := 1048576) (by decide) cy; have p0 := Sp.mul_bd (a := Sp.lim 1048576 bx - Sp.lim 1048576 ax) (b := Sp.lim 1048576 cx - Sp.lim 1048576 ax) (A := 2097152) (B := 2097152) (by omega) (by omega) (by omega) (by omega); have p1 := Sp.mul_bd (a := Sp.lim 1048576 b_y - Sp.lim 1048576 ay) (b := Sp.lim 1048576 cy - Sp.lim 1048576 ay) (A := 2097152) (B := 2097152) (by omega) (by omega) (by omega) (by omega)
  refine ac_intro (fn := Try.f37) (c := bodyOf Try.f37) Try.func37 (by kernel_rfl) (by kernel_rfl) (by kernel_rfl) ?_
  intro w0 W pin
  refine aw_sub ?_
  refine aw_plain_seq (r := sub (bodyOf Try.f37) [false]) (y := sub (bodyOf Try.f37) [true]) (id := 0) (ops := regOps (sub (bodyOf Try.f37) [false])) (by kernel_rfl) (by kernel_rfl) (by kernel_rfl) (by kernel_rfl) (
      .cons (d := some 3) (by kernel_rfl) (does_box (t := 24) (x := .tmp 0) (k := 1) (v := .agg #[.int .i64 ax, .int .i64 ay]) (cells := [.int .i64 ax, .int .i64 ay]) (by kernel_rfl) (by kernel_rfl) (by kernel_rfl) (by kernel_rfl)) <|
      .cons (d := some 4) (by kernel_rfl) (does_box (t := 24) (x := .tmp 1) (k := 2) (v := .agg #[.int .i64 bx, .int .i64 b_y]) (cells := [.int .i64 bx, .int .i64 b_y]) (by kernel_rfl) (by kernel_rfl) (by kernel_rfl) (by kernel_rfl)) <|
      .cons (d := some 5) (by kernel_rfl) (does_box (t := 24) (x := .tmp 2) (k := 3) (v := .agg #[.int .i64 cx, .int .i64 cy]) (cells := [.int .i64 cx, .int .i64 cy]) (by kernel_rfl) (by kernel_rfl) (by kernel_rfl) (by kernel_rfl)) <|
      .cons (d := some 6) (by kernel_rfl) (does_assign (x := .const (.int .i64 0)) (v := .int .i64 0) (by kernel_rfl) (by kernel_rfl)) <|
      .nil _ _) ?_
  refine aw_weak (weak_b (T := [(3, .pointer (some ⟨1, 0, none⟩)), (4, .pointer (some ⟨2, 0, none⟩)), (5, .pointer (some ⟨3, 0, none⟩)), (6, .int .i64 0)]) (L := [(1, ⟨[.int .i64 ax, .int .i64 ay], 24, true, 2⟩), (2, ⟨[.int .i64 bx, .int .i64 b_y], 24, true, 2⟩), (3, ⟨[.int .i64 cx, .int .i64 cy], 24, true, 2⟩)]) (by kernel_rfl) (by kernel_rfl) (by kernel_rfl)) ?_
  refine aw_draws_seq (r := sub (bodyOf Try.f37) [true, false]) (y := sub (bodyOf Try.f37) [true, true]) (id := 1) (ops := regOps (sub (bodyOf Try.f37) [true, false])) [[], [], [0, 1], [], [], [0, 1, 2, 3, 4], [], [], [0, 1, 2, 3, 4, 5, 6, 7], [0, 1, 2, 3, 4, 5, 6, 7, 8]] (by kernel_rfl) (by kernel_rfl) (by kernel_rfl) (by kernel_rfl) (by kernel_rfl) (by kernel_rfl) (
      .cons (d := some 9) (by kernel_rfl) (does_load (t := 24) (x := .tmp 3) (k := 1) (off := 0) (b := ⟨[.int .i64 ax, .int .i64 ay], 24, true, 2⟩) (v := .agg #[.int .i64 ax, .int .i64 ay]) (by kernel_rfl) (by kernel_rfl) (by kernel_rfl) (by kernel_rfl)) <|
      .cons (d := some 10) (by kernel_rfl) (does_load (t := 24) (x := .tmp 4) (k := 2) (off := 0) (b := ⟨[.int .i64 bx, .int .i64 b_y], 24, true, 2⟩) (v := .agg #[.int .i64 bx, .int .i64 b_y]) (by kernel_rfl) (by kernel_rfl) (by kernel_rfl) (by kernel_rfl)) <|
      .cons (d := some 11) (by kernel_rfl) (does_call0 (x := .func 80) (ars := #[.tmp 9, .tmp 10]) (ats := #[24, 24]) (g := 80) (vs := [.agg #[.int .i64 ax, .int .i64 ay], .agg #[.int .i64 bx, .int .i64 b_y]]) (v := .agg #[.int .i64 (Sp.lim 1048576 bx - Sp.lim 1048576 ax), .int .i64 (Sp.lim 1048576 b_y - Sp.lim 1048576 ay)]) (by kernel_rfl) (by kernel_rfl) (by kernel_rfl) (by kernel_rfl) (way_ok ax ay bx b_y) (by kernel_rfl) (by kernel_rfl)) <|
      .cons (d := some 12) (by kernel_rfl) (does_load (t := 24) (x := .tmp 3) (k := 1) (off := 0) (b := ⟨[.int .i64 ax, .int .i64 ay], 24, true, 2⟩) (v := .agg #[.int .i64 ax, .int .i64 ay]) (by kernel_rfl) (by kernel_rfl) (by kernel_rfl) (by kernel_rfl)) <|
      .cons (d := some 13) (by kernel_rfl) (does_load (t := 24) (x := .tmp 5) (k := 3) (off := 0) (b := ⟨[.int .i64 cx, .int .i64 cy], 24, true, 2⟩) (v := .agg #[.int .i64 cx, .int .i64 cy]) (by kernel_rfl) (by kernel_rfl) (by kernel_rfl) (by kernel_rfl)) <|
      .cons (d := some 14) (by kernel_rfl) (does_call0 (x := .func 80) (ars := #[.tmp 12, .tmp 13]) (ats := #[24, 24]) (g := 80) (vs := [.agg #[.int .i64 ax, .int .i64 ay], .agg #[.int .i64 cx, .int .i64 cy]]) (v := .agg #[.int .i64 (Sp.lim 1048576 cx - Sp.lim 1048576 ax), .int .i64 (Sp.lim 1048576 cy - Sp.lim 1048576 ay)]) (by kernel_rfl) (by kernel_rfl) (by kernel_rfl) (by kernel_rfl) (way_ok ax ay cx cy) (by kernel_rfl) (by kernel_rfl)) <|
      .cons (d := some 7) (by kernel_rfl) (does_alloc (t := 24) (k := 4) (v := .agg #[.int .i64 0, .int .i64 0]) (cells := [.int .i64 0, .int .i64 0]) (by kernel_rfl) (by kernel_rfl) (by kernel_rfl) (by kernel_rfl) (by kernel_rfl)) <|
      .cons (d := some 8) (by kernel_rfl) (does_alloc (t := 24) (k := 5) (v := .agg #[.int .i64 0, .int .i64 0]) (cells := [.int .i64 0, .int .i64 0]) (by kernel_rfl) (by kernel_rfl) (by kernel_rfl) (by kernel_rfl) (by kernel_rfl)) <|
      .cons (d := none) (by kernel_rfl) (does_store (t := 24) (x := .tmp 7) (y := .tmp 11) (k := 4) (off := 0) (b := ⟨[.int .i64 0, .int .i64 0], 24, true, 2⟩) (v := .agg #[.int .i64 (Sp.lim 1048576 bx - Sp.lim 1048576 ax), .int .i64 (Sp.lim 1048576 b_y - Sp.lim 1048576 ay)]) (cells := [.int .i64 (Sp.lim 1048576 bx - Sp.lim 1048576 ax), .int .i64 (Sp.lim 1048576 b_y - Sp.lim 1048576 ay)]) (by kernel_rfl) (by kernel_rfl) (by kernel_rfl) (by kernel_rfl) rfl (by kernel_rfl) (by kernel_rfl) (by kernel_rfl) (by kernel_rfl)) <|
      .cons (d := none) (by kernel_rfl) (does_store (t := 24) (x := .tmp 8) (y := .tmp 14) (k := 5) (off := 0) (b := ⟨[.int .i64 0, .int .i64 0], 24, true, 2⟩) (v := .agg #[.int .i64 (Sp.lim 1048576 cx - Sp.lim 1048576 ax), .int .i64 (Sp.lim 1048576 cy - Sp.lim 1048576 ay)]) (cells := [.int .i64 (Sp.lim 1048576 cx - Sp.lim 1048576 ax), .int .i64 (Sp.lim 1048576 cy - Sp.lim 1048576 ay)]) (by kernel_rfl) (by kernel_rfl) (by kernel_rfl) (by kernel_rfl) rfl (by kernel_rfl) (by kernel_rfl) (by kernel_rfl) (by kernel_rfl)) <|
      .nil _ _) ?_
  refine aw_weak (weak_b (T := [(6, .int .i64 0), (7, .pointer (some ⟨4, 0, none⟩)), (8, .pointer (some ⟨5, 0, none⟩))]) (L := [(4, ⟨[.int .i64 (Sp.lim 1048576 bx - Sp.lim 1048576 ax), .int .i64 (Sp.lim 1048576 b_y - Sp.lim 1048576 ay)], 24, true, 2⟩), (5, ⟨[.int .i64 (Sp.lim 1048576 cx - Sp.lim 1048576 ax), .int .i64 (Sp.lim 1048576 cy - Sp.lim 1048576 ay)], 24, true, 2⟩)]) (by kernel_rfl) (by kernel_rfl) (by kernel_rfl)) ?_
  refine aw_plain_seq (r := sub (bodyOf Try.f37) [true, true, false]) (y := sub (bodyOf Try.f37) [true, true, true]) (id := 2) (ops := regOps (sub (bodyOf Try.f37) [true, true, false])) (by kernel_rfl) (by kernel_rfl) (by kernel_rfl) (by kernel_rfl) (
      .cons (d := some 15) (by kernel_rfl) (does_fieldAddr (s := 24) (x := .tmp 7) (f := 0) (k := 4) (off := 0) (d := 0) (by kernel_rfl) (by kernel_rfl) (by kernel_rfl)) <|
      .cons (d := some 16) (by kernel_rfl) (does_load (t := 3) (x := .tmp 15) (k := 4) (off := 0) (b := ⟨[.int .i64 (Sp.lim 1048576 bx - Sp.lim 1048576 ax), .int .i64 (Sp.lim 1048576 b_y - Sp.lim 1048576 ay)], 24, true, 2⟩) (v := .int .i64 (Sp.lim 1048576 bx - Sp.lim 1048576 ax)) (by kernel_rfl) (by kernel_rfl) (by kernel_rfl) (by kernel_rfl)) <|
      .cons (d := some 17) (by kernel_rfl) (does_fieldAddr (s := 24) (x := .tmp 8) (f := 0) (k := 5) (off := 0) (d := 0) (by kernel_rfl) (by kernel_rfl) (by kernel_rfl)) <|
      .cons (d := some 18) (by kernel_rfl) (does_load (t := 3) (x := .tmp 17) (k := 5) (off := 0) (b := ⟨[.int .i64 (Sp.lim 1048576 cx - Sp.lim 1048576 ax), .int .i64 (Sp.lim 1048576 cy - Sp.lim 1048576 ay)], 24, true, 2⟩) (v := .int .i64 (Sp.lim 1048576 cx - Sp.lim 1048576 ax)) (by kernel_rfl) (by kernel_rfl) (by kernel_rfl) (by kernel_rfl)) <|
      .cons (d := some 19) (by kernel_rfl) (does_int (n' := (Sp.lim 1048576 bx - Sp.lim 1048576 ax) * (Sp.lim 1048576 cx - Sp.lim 1048576 ax)) (does_pure (v := .int .i64 (IntKind.wrap .i64 ((Sp.lim 1048576 bx - Sp.lim 1048576 ax) * (Sp.lim 1048576 cx - Sp.lim 1048576 ax)))) (by kernel_rfl) (fun w => by kernel_rfl) (by kernel_rfl)) (wrap_i64 (by omega) (by omega))) <|
      .cons (d := some 20) (by kernel_rfl) (does_fieldAddr (s := 24) (x := .tmp 7) (f := 1) (k := 4) (off := 0) (d := 1) (by kernel_rfl) (by kernel_rfl) (by kernel_rfl)) <|
      .cons (d := some 21) (by kernel_rfl) (does_load (t := 3) (x := .tmp 20) (k := 4) (off := 1) (b := ⟨[.int .i64 (Sp.lim 1048576 bx - Sp.lim 1048576 ax), .int .i64 (Sp.lim 1048576 b_y - Sp.lim 1048576 ay)], 24, true, 2⟩) (v := .int .i64 (Sp.lim 1048576 b_y - Sp.lim 1048576 ay)) (by kernel_rfl) (by kernel_rfl) (by kernel_rfl) (by kernel_rfl)) <|
      .cons (d := some 22) (by kernel_rfl) (does_fieldAddr (s := 24) (x := .tmp 8) (f := 1) (k := 5) (off := 0) (d := 1) (by kernel_rfl) (by kernel_rfl) (by kernel_rfl)) <|
      .cons (d := some 23) (by kernel_rfl) (does_load (t := 3) (x := .tmp 22) (k := 5) (off := 1) (b := ⟨[.int .i64 (Sp.lim 1048576 cx - Sp.lim 1048576 ax), .int .i64 (Sp.lim 1048576 cy - Sp.lim 1048576 ay)], 24, true, 2⟩) (v := .int .i64 (Sp.lim 1048576 cy - Sp.lim 1048576 ay)) (by kernel_rfl) (by kernel_rfl) (by kernel_rfl) (by kernel_rfl)) <|
      .cons (d := some 24) (by kernel_rfl) (does_int (n' := (Sp.lim 1048576 b_y - Sp.lim 1048576 ay) * (Sp.lim 1048576 cy - Sp.lim 1048576 ay)) (does_pure (v := .int .i64 (IntKind.wrap .i64 ((Sp.lim 1048576 b_y - Sp.lim 1048576 ay) * (Sp.lim 1048576 cy - Sp.lim 1048576 ay)))) (by kernel_rfl) (fun w => by kernel_rfl) (by kernel_rfl)) (wrap_i64 (by omega) (by omega))) <|
      .cons (d := some 25) (by kernel_rfl) (does_int (n' := ((Sp.lim 1048576 bx - Sp.lim 1048576 ax) * (Sp.lim 1048576 cx - Sp.lim 1048576 ax)) + ((Sp.lim 1048576 b_y - Sp.lim 1048576 ay) * (Sp.lim 1048576 cy - Sp.lim 1048576 ay))) (does_pure (v := .int .i64 (IntKind.wrap .i64 (((Sp.lim 1048576 bx - Sp.lim 1048576 ax) * (Sp.lim 1048576 cx - Sp.lim 1048576 ax)) + ((Sp.lim 1048576 b_y - Sp.lim 1048576 ay) * (Sp.lim 1048576 cy - Sp.lim 1048576 ay))))) (by kernel_rfl) (fun w => by kernel_rfl) (by kernel_rfl)) (wrap_i64 (by omega) (by omega))) <|
      .cons (d := some 6) (by kernel_rfl) (does_assign (x := .tmp 25) (v := .int .i64 (((Sp.lim 1048576 bx - Sp.lim 1048576 ax) * (Sp.lim 1048576 cx - Sp.lim 1048576 ax)) + ((Sp.lim 1048576 b_y - Sp.lim 1048576 ay) * (Sp.lim 1048576 cy - Sp.lim 1048576 ay)))) (by kernel_rfl) (by kernel_rfl)) <|
      .nil _ _) ?_
  refine aw_weak (weak_b (T := [(6, .int .i64 (((Sp.lim 1048576 bx - Sp.lim 1048576 ax) * (Sp.lim 1048576 cx - Sp.lim 1048576 ax)) + ((Sp.lim 1048576 b_y - Sp.lim 1048576 ay) * (Sp.lim 1048576 cy - Sp.lim 1048576 ay)))), (7, .pointer (some ⟨4, 0, none⟩)), (8, .pointer (some ⟨5, 0, none⟩))]) (L := [(4, ⟨[.int .i64 (Sp.lim 1048576 bx - Sp.lim 1048576 ax), .int .i64 (Sp.lim 1048576 b_y - Sp.lim 1048576 ay)], 24, true, 2⟩), (5, ⟨[.int .i64 (Sp.lim 1048576 cx - Sp.lim 1048576 ax), .int .i64 (Sp.lim 1048576 cy - Sp.lim 1048576 ay)], 24, true, 2⟩)]) (by kernel_rfl) (by kernel_rfl) (by kernel_rfl)) ?_
  refine aw_ret (by kernel_rfl) ?_
  exact end_ret (vs := [.int .i64 (((Sp.lim 1048576 bx - Sp.lim 1048576 ax) * (Sp.lim 1048576 cx - Sp.lim 1048576 ax)) + ((Sp.lim 1048576 b_y - Sp.lim 1048576 ay) * (Sp.lim 1048576 cy - Sp.lim 1048576 ay)))]) (by kernel_rfl) (show (.int .i64 (((Sp.lim 1048576 bx - Sp.lim 1048576 ax) * (Sp.lim 1048576 cx - Sp.lim 1048576 ax)) + ((Sp.lim 1048576 b_y - Sp.lim 1048576 ay) * (Sp.lim 1048576 cy - Sp.lim 1048576 ay))) : Value) = (.int .i64 (Sp.dot (Sp.lim 1048576 ax) (Sp.lim 1048576 ay) (Sp.lim 1048576 bx) (Sp.lim 1048576 b_y) (Sp.lim 1048576 cx) (Sp.lim 1048576 cy))) from (congrArg (Value.int .i64) (show (((Sp.lim 1048576 bx - Sp.lim 1048576 ax) * (Sp.lim 1048576 cx - Sp.lim 1048576 ax)) + ((Sp.lim 1048576 b_y - Sp.lim 1048576 ay) * (Sp.lim 1048576 cy - Sp.lim 1048576 ay))) = (Sp.dot (Sp.lim 1048576 ax) (Sp.lim 1048576 ay) (Sp.lim 1048576 bx) (Sp.lim 1048576 b_y) (Sp.lim 1048576 cx) (Sp.lim 1048576 cy)) from by rfl))) trivial

theorem turn_ok (ax ay bx b_y cx cy : Int) :
    AC Try.prog 39 0 ([.agg #[.int .i64 ax, .int .i64 ay], .agg #[.int .i64 bx, .int .i64 b_y], .agg #[.int .i64 cx, .int .i64 cy]]) [] (.int .i64 (Sp.cmp (Sp.crs (Sp.lim 1048576 ax) (Sp.lim 1048576 ay) (Sp.lim 1048576 bx) (Sp.lim 1048576 b_y) (Sp.lim 1048576 cx) (Sp.lim 1048576 cy)) 0)) [] := by
  refine ac_intro (fn := Try.f39) (c := bodyOf Try.f39) Try.func39 (by kernel_rfl) (by kernel_rfl) (by kernel_rfl) ?_
  intro w0 W pin
  refine aw_sub ?_
  refine aw_plain_seq (r := sub (bodyOf Try.f39) [false]) (y := sub (bodyOf Try.f39) [true]) (id := 0) (ops := regOps (sub (bodyOf Try.f39) [false])) (by kernel_rfl) (by kernel_rfl) (by kernel_rfl) (by kernel_rfl) (
      .cons (d := some 3) (by kernel_rfl) (does_box (t := 24) (x := .tmp 0) (k := 1) (v := .agg #[.int .i64 ax, .int .i64 ay]) (cells := [.int .i64 ax, .int .i64 ay]) (by kernel_rfl) (by kernel_rfl) (by kernel_rfl) (by kernel_rfl)) <|
      .cons (d := some 4) (by kernel_rfl) (does_box (t := 24) (x := .tmp 1) (k := 2) (v := .agg #[.int .i64 bx, .int .i64 b_y]) (cells := [.int .i64 bx, .int .i64 b_y]) (by kernel_rfl) (by kernel_rfl) (by kernel_rfl) (by kernel_rfl)) <|
      .cons (d := some 5) (by kernel_rfl) (does_box (t := 24) (x := .tmp 2) (k := 3) (v := .agg #[.int .i64 cx, .int .i64 cy]) (cells := [.int .i64 cx, .int .i64 cy]) (by kernel_rfl) (by kernel_rfl) (by kernel_rfl) (by kernel_rfl)) <|
      .cons (d := some 6) (by kernel_rfl) (does_assign (x := .const (.int .i64 0)) (v := .int .i64 0) (by kernel_rfl) (by kernel_rfl)) <|
      .nil _ _) ?_
  refine aw_weak (weak_b (T := [(3, .pointer (some ⟨1, 0, none⟩)), (4, .pointer (some ⟨2, 0, none⟩)), (5, .pointer (some ⟨3, 0, none⟩)), (6, .int .i64 0)]) (L := [(1, ⟨[.int .i64 ax, .int .i64 ay], 24, true, 2⟩), (2, ⟨[.int .i64 bx, .int .i64 b_y], 24, true, 2⟩), (3, ⟨[.int .i64 cx, .int .i64 cy], 24, true, 2⟩)]) (by kernel_rfl) (by kernel_rfl) (by kernel_rfl)) ?_
  refine aw_plain_seq (r := sub (bodyOf Try.f39) [true, false]) (y := sub (bodyOf Try.f39) [true, true]) (id := 1) (ops := regOps (sub (bodyOf Try.f39) [true, false])) (by kernel_rfl) (by kernel_rfl) (by kernel_rfl) (by kernel_rfl) (
      .cons (d := some 7) (by kernel_rfl) (does_load (t := 24) (x := .tmp 3) (k := 1) (off := 0) (b := ⟨[.int .i64 ax, .int .i64 ay], 24, true, 2⟩) (v := .agg #[.int .i64 ax, .int .i64 ay]) (by kernel_rfl) (by kernel_rfl) (by kernel_rfl) (by kernel_rfl)) <|
      .cons (d := some 8) (by kernel_rfl) (does_load (t := 24) (x := .tmp 4) (k := 2) (off := 0) (b := ⟨[.int .i64 bx, .int .i64 b_y], 24, true, 2⟩) (v := .agg #[.int .i64 bx, .int .i64 b_y]) (by kernel_rfl) (by kernel_rfl) (by kernel_rfl) (by kernel_rfl)) <|
      .cons (d := some 9) (by kernel_rfl) (does_load (t := 24) (x := .tmp 5) (k := 3) (off := 0) (b := ⟨[.int .i64 cx, .int .i64 cy], 24, true, 2⟩) (v := .agg #[.int .i64 cx, .int .i64 cy]) (by kernel_rfl) (by kernel_rfl) (by kernel_rfl) (by kernel_rfl)) <|
      .cons (d := some 10) (by kernel_rfl) (does_call0 (x := .func 35) (ars := #[.tmp 7, .tmp 8, .tmp 9]) (ats := #[24, 24, 24]) (g := 35) (vs := [.agg #[.int .i64 ax, .int .i64 ay], .agg #[.int .i64 bx, .int .i64 b_y], .agg #[.int .i64 cx, .int .i64 cy]]) (v := .int .i64 (Sp.crs (Sp.lim 1048576 ax) (Sp.lim 1048576 ay) (Sp.lim 1048576 bx) (Sp.lim 1048576 b_y) (Sp.lim 1048576 cx) (Sp.lim 1048576 cy))) (by kernel_rfl) (by kernel_rfl) (by kernel_rfl) (by kernel_rfl) (cross_ok ax ay bx b_y cx cy) (by kernel_rfl) (by kernel_rfl)) <|
      .cons (d := some 11) (by kernel_rfl) (does_call0 (x := .func 79) (ars := #[.tmp 10, .const (.int .i64 0)]) (ats := #[3, 3]) (g := 79) (vs := [.int .i64 (Sp.crs (Sp.lim 1048576 ax) (Sp.lim 1048576 ay) (Sp.lim 1048576 bx) (Sp.lim 1048576 b_y) (Sp.lim 1048576 cx) (Sp.lim 1048576 cy)), .int .i64 0]) (v := .int .i64 (Sp.cmp (Sp.crs (Sp.lim 1048576 ax) (Sp.lim 1048576 ay) (Sp.lim 1048576 bx) (Sp.lim 1048576 b_y) (Sp.lim 1048576 cx) (Sp.lim 1048576 cy)) 0)) (by kernel_rfl) (by kernel_rfl) (by kernel_rfl) (by kernel_rfl) (compare_ok (Sp.crs (Sp.lim 1048576 ax) (Sp.lim 1048576 ay) (Sp.lim 1048576 bx) (Sp.lim 1048576 b_y) (Sp.lim 1048576 cx) (Sp.lim 1048576 cy)) 0) (by kernel_rfl) (by kernel_rfl)) <|
      .cons (d := some 6) (by kernel_rfl) (does_assign (x := .tmp 11) (v := .int .i64 (Sp.cmp (Sp.crs (Sp.lim 1048576 ax) (Sp.lim 1048576 ay) (Sp.lim 1048576 bx) (Sp.lim 1048576 b_y) (Sp.lim 1048576 cx) (Sp.lim 1048576 cy)) 0)) (by kernel_rfl) (by kernel_rfl)) <|
      .nil _ _) ?_
  refine aw_weak (weak_b (T := [(6, .int .i64 (Sp.cmp (Sp.crs (Sp.lim 1048576 ax) (Sp.lim 1048576 ay) (Sp.lim 1048576 bx) (Sp.lim 1048576 b_y) (Sp.lim 1048576 cx) (Sp.lim 1048576 cy)) 0))]) (L := []) (by kernel_rfl) (by kernel_rfl) (by kernel_rfl)) ?_
  refine aw_ret (by kernel_rfl) ?_
  exact end_ret (vs := [.int .i64 (Sp.cmp (Sp.crs (Sp.lim 1048576 ax) (Sp.lim 1048576 ay) (Sp.lim 1048576 bx) (Sp.lim 1048576 b_y) (Sp.lim 1048576 cx) (Sp.lim 1048576 cy)) 0)]) (by kernel_rfl) (by kernel_rfl) trivial

theorem sq_ok (ax ay bx b_y : Int) :
    AC Try.prog 41 0 ([.agg #[.int .i64 ax, .int .i64 ay], .agg #[.int .i64 bx, .int .i64 b_y]]) [] (.int .i64 (Sp.dot (Sp.lim 1048576 ax) (Sp.lim 1048576 ay) (Sp.lim 1048576 bx) (Sp.lim 1048576 b_y) (Sp.lim 1048576 bx) (Sp.lim 1048576 b_y))) [] := by
  refine ac_intro (fn := Try.f41) (c := bodyOf Try.f41) Try.func41 (by kernel_rfl) (by kernel_rfl) (by kernel_rfl) ?_
  intro w0 W pin
  refine aw_sub ?_
  refine aw_plain_seq (r := sub (bodyOf Try.f41) [false]) (y := sub (bodyOf Try.f41) [true]) (id := 0) (ops := regOps (sub (bodyOf Try.f41) [false])) (by kernel_rfl) (by kernel_rfl) (by kernel_rfl) (by kernel_rfl) (
      .cons (d := some 2) (by kernel_rfl) (does_box (t := 24) (x := .tmp 0) (k := 1) (v := .agg #[.int .i64 ax, .int .i64 ay]) (cells := [.int .i64 ax, .int .i64 ay]) (by kernel_rfl) (by kernel_rfl) (by kernel_rfl) (by kernel_rfl)) <|
      .cons (d := some 3) (by kernel_rfl) (does_box (t := 24) (x := .tmp 1) (k := 2) (v := .agg #[.int .i64 bx, .int .i64 b_y]) (cells := [.int .i64 bx, .int .i64 b_y]) (by kernel_rfl) (by kernel_rfl) (by kernel_rfl) (by kernel_rfl)) <|
      .cons (d := some 4) (by kernel_rfl) (does_assign (x := .const (.int .i64 0)) (v := .int .i64 0) (by kernel_rfl) (by kernel_rfl)) <|
      .nil _ _) ?_
  refine aw_weak (weak_b (T := [(2, .pointer (some ⟨1, 0, none⟩)), (3, .pointer (some ⟨2, 0, none⟩)), (4, .int .i64 0)]) (L := [(1, ⟨[.int .i64 ax, .int .i64 ay], 24, true, 2⟩), (2, ⟨[.int .i64 bx, .int .i64 b_y], 24, true, 2⟩)]) (by kernel_rfl) (by kernel_rfl) (by kernel_rfl)) ?_
  refine aw_plain_seq (r := sub (bodyOf Try.f41) [true, false]) (y := sub (bodyOf Try.f41) [true, true]) (id := 1) (ops := regOps (sub (bodyOf Try.f41) [true, false])) (by kernel_rfl) (by kernel_rfl) (by kernel_rfl) (by kernel_rfl) (
      .cons (d := some 5) (by kernel_rfl) (does_load (t := 24) (x := .tmp 2) (k := 1) (off := 0) (b := ⟨[.int .i64 ax, .int .i64 ay], 24, true, 2⟩) (v := .agg #[.int .i64 ax, .int .i64 ay]) (by kernel_rfl) (by kernel_rfl) (by kernel_rfl) (by kernel_rfl)) <|
      .cons (d := some 6) (by kernel_rfl) (does_load (t := 24) (x := .tmp 3) (k := 2) (off := 0) (b := ⟨[.int .i64 bx, .int .i64 b_y], 24, true, 2⟩) (v := .agg #[.int .i64 bx, .int .i64 b_y]) (by kernel_rfl) (by kernel_rfl) (by kernel_rfl) (by kernel_rfl)) <|
      .cons (d := some 7) (by kernel_rfl) (does_load (t := 24) (x := .tmp 3) (k := 2) (off := 0) (b := ⟨[.int .i64 bx, .int .i64 b_y], 24, true, 2⟩) (v := .agg #[.int .i64 bx, .int .i64 b_y]) (by kernel_rfl) (by kernel_rfl) (by kernel_rfl) (by kernel_rfl)) <|
      .cons (d := some 8) (by kernel_rfl) (does_call0 (x := .func 37) (ars := #[.tmp 5, .tmp 6, .tmp 7]) (ats := #[24, 24, 24]) (g := 37) (vs := [.agg #[.int .i64 ax, .int .i64 ay], .agg #[.int .i64 bx, .int .i64 b_y], .agg #[.int .i64 bx, .int .i64 b_y]]) (v := .int .i64 (Sp.dot (Sp.lim 1048576 ax) (Sp.lim 1048576 ay) (Sp.lim 1048576 bx) (Sp.lim 1048576 b_y) (Sp.lim 1048576 bx) (Sp.lim 1048576 b_y))) (by kernel_rfl) (by kernel_rfl) (by kernel_rfl) (by kernel_rfl) (dot_ok ax ay bx b_y bx b_y) (by kernel_rfl) (by kernel_rfl)) <|
      .cons (d := some 4) (by kernel_rfl) (does_assign (x := .tmp 8) (v := .int .i64 (Sp.dot (Sp.lim 1048576 ax) (Sp.lim 1048576 ay) (Sp.lim 1048576 bx) (Sp.lim 1048576 b_y) (Sp.lim 1048576 bx) (Sp.lim 1048576 b_y))) (by kernel_rfl) (by kernel_rfl)) <|
      .nil _ _) ?_
  refine aw_weak (weak_b (T := [(4, .int .i64 (Sp.dot (Sp.lim 1048576 ax) (Sp.lim 1048576 ay) (Sp.lim 1048576 bx) (Sp.lim 1048576 b_y) (Sp.lim 1048576 bx) (Sp.lim 1048576 b_y)))]) (L := []) (by kernel_rfl) (by kernel_rfl) (by kernel_rfl)) ?_
  refine aw_ret (by kernel_rfl) ?_
  exact end_ret (vs := [.int .i64 (Sp.dot (Sp.lim 1048576 ax) (Sp.lim 1048576 ay) (Sp.lim 1048576 bx) (Sp.lim 1048576 b_y) (Sp.lim 1048576 bx) (Sp.lim 1048576 b_y))]) (by kernel_rfl) (by kernel_rfl) trivial

theorem on_ok (ax ay bx b_y px py : Int) :
    AC Try.prog 43 0 ([.agg #[.int .i64 ax, .int .i64 ay], .agg #[.int .i64 bx, .int .i64 b_y], .agg #[.int .i64 px, .int .i64 py]]) [] (.bool (Sp.onb (Sp.lim 1048576 ax) (Sp.lim 1048576 ay) (Sp.lim 1048576 bx) (Sp.lim 1048576 b_y) (Sp.lim 1048576 px) (Sp.lim 1048576 py))) [] := by
  refine ac_intro (fn := Try.f43) (c := bodyOf Try.f43) Try.func43 (by kernel_rfl) (by kernel_rfl) (by kernel_rfl) ?_
  intro w0 W pin
  refine aw_sub ?_
  refine aw_plain_seq (r := sub (bodyOf Try.f43) [false]) (y := sub (bodyOf Try.f43) [true]) (id := 0) (ops := regOps (sub (bodyOf Try.f43) [false])) (by kernel_rfl) (by kernel_rfl) (by kernel_rfl) (by kernel_rfl) (
      .cons (d := some 3) (by kernel_rfl) (does_box (t := 24) (x := .tmp 0) (k := 1) (v := .agg #[.int .i64 ax, .int .i64 ay]) (cells := [.int .i64 ax, .int .i64 ay]) (by kernel_rfl) (by kernel_rfl) (by kernel_rfl) (by kernel_rfl)) <|
      .cons (d := some 4) (by kernel_rfl) (does_box (t := 24) (x := .tmp 1) (k := 2) (v := .agg #[.int .i64 bx, .int .i64 b_y]) (cells := [.int .i64 bx, .int .i64 b_y]) (by kernel_rfl) (by kernel_rfl) (by kernel_rfl) (by kernel_rfl)) <|
      .cons (d := some 5) (by kernel_rfl) (does_box (t := 24) (x := .tmp 2) (k := 3) (v := .agg #[.int .i64 px, .int .i64 py]) (cells := [.int .i64 px, .int .i64 py]) (by kernel_rfl) (by kernel_rfl) (by kernel_rfl) (by kernel_rfl)) <|
      .cons (d := some 6) (by kernel_rfl) (does_assign (x := .const (.bool false)) (v := .bool false) (by kernel_rfl) (by kernel_rfl)) <|
      .nil _ _) ?_
  refine aw_weak (weak_b (T := [(3, .pointer (some ⟨1, 0, none⟩)), (4, .pointer (some ⟨2, 0, none⟩)), (5, .pointer (some ⟨3, 0, none⟩)), (6, .bool false)]) (L := [(1, ⟨[.int .i64 ax, .int .i64 ay], 24, true, 2⟩), (2, ⟨[.int .i64 bx, .int .i64 b_y], 24, true, 2⟩), (3, ⟨[.int .i64 px, .int .i64 py], 24, true, 2⟩)]) (by kernel_rfl) (by kernel_rfl) (by kernel_rfl)) ?_
  rcases Bool.eq_false_or_eq_true ((Sp.cmp (Sp.crs (Sp.lim 1048576 ax) (Sp.lim 1048576 ay) (Sp.lim 1048576 bx) (Sp.lim 1048576 b_y) (Sp.lim 1048576 px) (Sp.lim 1048576 py)) 0) == 0) with h1 | h1
  · have h1p : (((Sp.cmp (Sp.crs (Sp.lim 1048576 ax) (Sp.lim 1048576 ay) (Sp.lim 1048576 bx) (Sp.lim 1048576 b_y) (Sp.lim 1048576 px) (Sp.lim 1048576 py)) 0) = 0)) := by first | (simpa using h1) | (have h1q := h1; simp at h1q; omega) | (have h1q := bx1 h1; simp at h1q; omega)
    refine aw_plain_seq (r := sub (bodyOf Try.f43) [true, false]) (y := sub (bodyOf Try.f43) [true, true]) (id := 1) (ops := regOps (sub (bodyOf Try.f43) [true, false])) (by kernel_rfl) (by kernel_rfl) (by kernel_rfl) (by kernel_rfl) (
        .cons (d := some 7) (by kernel_rfl) (does_load (t := 24) (x := .tmp 3) (k := 1) (off := 0) (b := ⟨[.int .i64 ax, .int .i64 ay], 24, true, 2⟩) (v := .agg #[.int .i64 ax, .int .i64 ay]) (by kernel_rfl) (by kernel_rfl) (by kernel_rfl) (by kernel_rfl)) <|
        .cons (d := some 8) (by kernel_rfl) (does_load (t := 24) (x := .tmp 4) (k := 2) (off := 0) (b := ⟨[.int .i64 bx, .int .i64 b_y], 24, true, 2⟩) (v := .agg #[.int .i64 bx, .int .i64 b_y]) (by kernel_rfl) (by kernel_rfl) (by kernel_rfl) (by kernel_rfl)) <|
        .cons (d := some 9) (by kernel_rfl) (does_load (t := 24) (x := .tmp 5) (k := 3) (off := 0) (b := ⟨[.int .i64 px, .int .i64 py], 24, true, 2⟩) (v := .agg #[.int .i64 px, .int .i64 py]) (by kernel_rfl) (by kernel_rfl) (by kernel_rfl) (by kernel_rfl)) <|
        .cons (d := some 10) (by kernel_rfl) (does_call0 (x := .func 39) (ars := #[.tmp 7, .tmp 8, .tmp 9]) (ats := #[24, 24, 24]) (g := 39) (vs := [.agg #[.int .i64 ax, .int .i64 ay], .agg #[.int .i64 bx, .int .i64 b_y], .agg #[.int .i64 px, .int .i64 py]]) (v := .int .i64 (Sp.cmp (Sp.crs (Sp.lim 1048576 ax) (Sp.lim 1048576 ay) (Sp.lim 1048576 bx) (Sp.lim 1048576 b_y) (Sp.lim 1048576 px) (Sp.lim 1048576 py)) 0)) (by kernel_rfl) (by kernel_rfl) (by kernel_rfl) (by kernel_rfl) (turn_ok ax ay bx b_y px py) (by kernel_rfl) (by kernel_rfl)) <|
        .cons (d := some 11) (by kernel_rfl) (does_bool (b' := true) (does_pure (v := .bool ((Sp.cmp (Sp.crs (Sp.lim 1048576 ax) (Sp.lim 1048576 ay) (Sp.lim 1048576 bx) (Sp.lim 1048576 b_y) (Sp.lim 1048576 px) (Sp.lim 1048576 py)) 0) == 0)) (by kernel_rfl) (fun w => by kernel_rfl) (by kernel_rfl)) (h1)) <|
        .cons (d := some 12) (by kernel_rfl) (does_move (x := .tmp 11) (v := .bool true) (by kernel_rfl) (by kernel_rfl)) <|
        .cons (d := some 13) (by kernel_rfl) (does_load (t := 24) (x := .tmp 5) (k := 3) (off := 0) (b := ⟨[.int .i64 px, .int .i64 py], 24, true, 2⟩) (v := .agg #[.int .i64 px, .int .i64 py]) (by kernel_rfl) (by kernel_rfl) (by kernel_rfl) (by kernel_rfl)) <|
        .cons (d := some 14) (by kernel_rfl) (does_load (t := 24) (x := .tmp 3) (k := 1) (off := 0) (b := ⟨[.int .i64 ax, .int .i64 ay], 24, true, 2⟩) (v := .agg #[.int .i64 ax, .int .i64 ay]) (by kernel_rfl) (by kernel_rfl) (by kernel_rfl) (by kernel_rfl)) <|
        .cons (d := some 15) (by kernel_rfl) (does_load (t := 24) (x := .tmp 4) (k := 2) (off := 0) (b := ⟨[.int .i64 bx, .int .i64 b_y], 24, true, 2⟩) (v := .agg #[.int .i64 bx, .int .i64 b_y]) (by kernel_rfl) (by kernel_rfl) (by kernel_rfl) (by kernel_rfl)) <|
        .cons (d := some 16) (by kernel_rfl) (does_call0 (x := .func 37) (ars := #[.tmp 13, .tmp 14, .tmp 15]) (ats := #[24, 24, 24]) (g := 37) (vs := [.agg #[.int .i64 px, .int .i64 py], .agg #[.int .i64 ax, .int .i64 ay], .agg #[.int .i64 bx, .int .i64 b_y]]) (v := .int .i64 (Sp.dot (Sp.lim 1048576 px) (Sp.lim 1048576 py) (Sp.lim 1048576 ax) (Sp.lim 1048576 ay) (Sp.lim 1048576 bx) (Sp.lim 1048576 b_y))) (by kernel_rfl) (by kernel_rfl) (by kernel_rfl) (by kernel_rfl) (dot_ok px py ax ay bx b_y) (by kernel_rfl) (by kernel_rfl)) <|
        .cons (d := some 17) (by kernel_rfl) (does_pure (v := .bool (decide ((Sp.dot (Sp.lim 1048576 px) (Sp.lim 1048576 py) (Sp.lim 1048576 ax) (Sp.lim 1048576 ay) (Sp.lim 1048576 bx) (Sp.lim 1048576 b_y)) ≤ 0))) (by kernel_rfl) (fun w => by kernel_rfl) (by kernel_rfl)) <|
        .cons (d := some 18) (by kernel_rfl) (does_pick (c := .tmp 12) (x := .tmp 17) (y := .const (.bool false)) (b := true) (v := .bool (decide ((Sp.dot (Sp.lim 1048576 px) (Sp.lim 1048576 py) (Sp.lim 1048576 ax) (Sp.lim 1048576 ay) (Sp.lim 1048576 bx) (Sp.lim 1048576 b_y)) ≤ 0))) (by kernel_rfl) (by kernel_rfl) (by kernel_rfl)) <|
        .cons (d := some 6) (by kernel_rfl) (does_assign (x := .tmp 18) (v := .bool (decide ((Sp.dot (Sp.lim 1048576 px) (Sp.lim 1048576 py) (Sp.lim 1048576 ax) (Sp.lim 1048576 ay) (Sp.lim 1048576 bx) (Sp.lim 1048576 b_y)) ≤ 0))) (by kernel_rfl) (by kernel_rfl)) <|
        .nil _ _) ?_
    refine aw_weak (weak_b (T := [(6, .bool (decide ((Sp.dot (Sp.lim 1048576 px) (Sp.lim 1048576 py) (Sp.lim 1048576 ax) (Sp.lim 1048576 ay) (Sp.lim 1048576 bx) (Sp.lim 1048576 b_y)) ≤ 0)))]) (L := []) (by kernel_rfl) (by kernel_rfl) (by kernel_rfl)) ?_
    refine aw_ret (by kernel_rfl) ?_
    exact end_ret (vs := [.bool (decide ((Sp.dot (Sp.lim 1048576 px) (Sp.lim 1048576 py) (Sp.lim 1048576 ax) (Sp.lim 1048576 ay) (Sp.lim 1048576 bx) (Sp.lim 1048576 b_y)) ≤ 0))]) (by kernel_rfl) (show (.bool (decide ((Sp.dot (Sp.lim 1048576 px) (Sp.lim 1048576 py) (Sp.lim 1048576 ax) (Sp.lim 1048576 ay) (Sp.lim 1048576 bx) (Sp.lim 1048576 b_y)) ≤ 0)) : Value) = (.bool (Sp.onb (Sp.lim 1048576 ax) (Sp.lim 1048576 ay) (Sp.lim 1048576 bx) (Sp.lim 1048576 b_y) (Sp.lim 1048576 px) (Sp.lim 1048576 py))) from (congrArg Value.bool (show (decide ((Sp.dot (Sp.lim 1048576 px) (Sp.lim 1048576 py) (Sp.lim 1048576 ax) (Sp.lim 1048576 ay) (Sp.lim 1048576 bx) (Sp.lim 1048576 b_y)) ≤ 0)) = (Sp.onb (Sp.lim 1048576 ax) (Sp.lim 1048576 ay) (Sp.lim 1048576 bx) (Sp.lim 1048576 b_y) (Sp.lim 1048576 px) (Sp.lim 1048576 py)) from by (simp [Sp.onb, *])))) trivial
  · have h1p : ¬ (((Sp.cmp (Sp.crs (Sp.lim 1048576 ax) (Sp.lim 1048576 ay) (Sp.lim 1048576 bx) (Sp.lim 1048576 b_y) (Sp.lim 1048576 px) (Sp.lim 1048576 py)) 0) = 0)) := by first | (simpa using h1) | (have h1q := h1; simp at h1q; omega) | (have h1q := bx2 h1; simp at h1q; omega)
    refine aw_plain_seq (r := sub (bodyOf Try.f43) [true, false]) (y := sub (bodyOf Try.f43) [true, true]) (id := 1) (ops := regOps (sub (bodyOf Try.f43) [true, false])) (by kernel_rfl) (by kernel_rfl) (by kernel_rfl) (by kernel_rfl) (
        .cons (d := some 7) (by kernel_rfl) (does_load (t := 24) (x := .tmp 3) (k := 1) (off := 0) (b := ⟨[.int .i64 ax, .int .i64 ay], 24, true, 2⟩) (v := .agg #[.int .i64 ax, .int .i64 ay]) (by kernel_rfl) (by kernel_rfl) (by kernel_rfl) (by kernel_rfl)) <|
        .cons (d := some 8) (by kernel_rfl) (does_load (t := 24) (x := .tmp 4) (k := 2) (off := 0) (b := ⟨[.int .i64 bx, .int .i64 b_y], 24, true, 2⟩) (v := .agg #[.int .i64 bx, .int .i64 b_y]) (by kernel_rfl) (by kernel_rfl) (by kernel_rfl) (by kernel_rfl)) <|
        .cons (d := some 9) (by kernel_rfl) (does_load (t := 24) (x := .tmp 5) (k := 3) (off := 0) (b := ⟨[.int .i64 px, .int .i64 py], 24, true, 2⟩) (v := .agg #[.int .i64 px, .int .i64 py]) (by kernel_rfl) (by kernel_rfl) (by kernel_rfl) (by kernel_rfl)) <|
        .cons (d := some 10) (by kernel_rfl) (does_call0 (x := .func 39) (ars := #[.tmp 7, .tmp 8, .tmp 9]) (ats := #[24, 24, 24]) (g := 39) (vs := [.agg #[.int .i64 ax, .int .i64 ay], .agg #[.int .i64 bx, .int .i64 b_y], .agg #[.int .i64 px, .int .i64 py]]) (v := .int .i64 (Sp.cmp (Sp.crs (Sp.lim 1048576 ax) (Sp.lim 1048576 ay) (Sp.lim 1048576 bx) (Sp.lim 1048576 b_y) (Sp.lim 1048576 px) (Sp.lim 1048576 py)) 0)) (by kernel_rfl) (by kernel_rfl) (by kernel_rfl) (by kernel_rfl) (turn_ok ax ay bx b_y px py) (by kernel_rfl) (by kernel_rfl)) <|
        .cons (d := some 11) (by kernel_rfl) (does_bool (b' := false) (does_pure (v := .bool ((Sp.cmp (Sp.crs (Sp.lim 1048576 ax) (Sp.lim 1048576 ay) (Sp.lim 1048576 bx) (Sp.lim 1048576 b_y) (Sp.lim 1048576 px) (Sp.lim 1048576 py)) 0) == 0)) (by kernel_rfl) (fun w => by kernel_rfl) (by kernel_rfl)) (h1)) <|
        .cons (d := some 12) (by kernel_rfl) (does_move (x := .tmp 11) (v := .bool false) (by kernel_rfl) (by kernel_rfl)) <|
        .cons (d := some 13) (by kernel_rfl) (does_skipB (by kernel_rfl)) <|
        .cons (d := some 14) (by kernel_rfl) (does_skipB (by kernel_rfl)) <|
        .cons (d := some 15) (by kernel_rfl) (does_skipB (by kernel_rfl)) <|
        .cons (d := some 16) (by kernel_rfl) (does_skipB (by kernel_rfl)) <|
        .cons (d := some 17) (by kernel_rfl) (does_skipB (by kernel_rfl)) <|
        .cons (d := some 18) (by kernel_rfl) (does_pick (c := .tmp 12) (x := .tmp 17) (y := .const (.bool false)) (b := false) (v := .bool false) (by kernel_rfl) (by kernel_rfl) (by kernel_rfl)) <|
        .cons (d := some 6) (by kernel_rfl) (does_assign (x := .tmp 18) (v := .bool false) (by kernel_rfl) (by kernel_rfl)) <|
        .nil _ _) ?_
    refine aw_weak (weak_b (T := [(6, .bool false)]) (L := []) (by kernel_rfl) (by kernel_rfl) (by kernel_rfl)) ?_
    refine aw_ret (by kernel_rfl) ?_
    exact end_ret (vs := [.bool false]) (by kernel_rfl) (show (.bool false : Value) = (.bool (Sp.onb (Sp.lim 1048576 ax) (Sp.lim 1048576 ay) (Sp.lim 1048576 bx) (Sp.lim 1048576 b_y) (Sp.lim 1048576 px) (Sp.lim 1048576 py))) from (congrArg Value.bool (show false = (Sp.onb (Sp.lim 1048576 ax) (Sp.lim 1048576 ay) (Sp.lim 1048576 bx) (Sp.lim 1048576 b_y) (Sp.lim 1048576 px) (Sp.lim 1048576 py)) from by (simp [Sp.onb, *])))) trivial

theorem pcmp_ok (ax ay bx b_y : Int) :
    AC Try.prog 33 0 ([.agg #[.int .i64 ax, .int .i64 ay], .agg #[.int .i64 bx, .int .i64 b_y]]) [] (.int .i64 (Sp.pcmp ax ay bx b_y)) [] := by
  refine ac_intro (fn := Try.f33) (c := bodyOf Try.f33) Try.func33 (by kernel_rfl) (by kernel_rfl) (by kernel_rfl) ?_
  intro w0 W pin
  refine aw_sub ?_
  refine aw_plain_seq (r := sub (bodyOf Try.f33) [false]) (y := sub (bodyOf Try.f33) [true]) (id := 0) (ops := regOps (sub (bodyOf Try.f33) [false])) (by kernel_rfl) (by kernel_rfl) (by kernel_rfl) (by kernel_rfl) (
      .cons (d := some 2) (by kernel_rfl) (does_box (t := 24) (x := .tmp 0) (k := 1) (v := .agg #[.int .i64 ax, .int .i64 ay]) (cells := [.int .i64 ax, .int .i64 ay]) (by kernel_rfl) (by kernel_rfl) (by kernel_rfl) (by kernel_rfl)) <|
      .cons (d := some 3) (by kernel_rfl) (does_box (t := 24) (x := .tmp 1) (k := 2) (v := .agg #[.int .i64 bx, .int .i64 b_y]) (cells := [.int .i64 bx, .int .i64 b_y]) (by kernel_rfl) (by kernel_rfl) (by kernel_rfl) (by kernel_rfl)) <|
      .cons (d := some 4) (by kernel_rfl) (does_assign (x := .const (.int .i64 0)) (v := .int .i64 0) (by kernel_rfl) (by kernel_rfl)) <|
      .nil _ _) ?_
  refine aw_weak (weak_b (T := [(2, .pointer (some ⟨1, 0, none⟩)), (3, .pointer (some ⟨2, 0, none⟩)), (4, .int .i64 0)]) (L := [(1, ⟨[.int .i64 ax, .int .i64 ay], 24, true, 2⟩), (2, ⟨[.int .i64 bx, .int .i64 b_y], 24, true, 2⟩)]) (by kernel_rfl) (by kernel_rfl) (by kernel_rfl)) ?_
  refine aw_seq (x := sub (bodyOf Try.f33) [true, false]) (y := sub (bodyOf Try.f33) [true, true]) (by kernel_rfl) ?_
  refine aw_plain_seq (r := sub (bodyOf Try.f33) [true, false, false]) (y := sub (bodyOf Try.f33) [true, false, true]) (id := 1) (ops := regOps (sub (bodyOf Try.f33) [true, false, false])) (by kernel_rfl) (by kernel_rfl) (by kernel_rfl) (by kernel_rfl) (
      .cons (d := some 6) (by kernel_rfl) (does_fieldAddr (s := 24) (x := .tmp 2) (f := 0) (k := 1) (off := 0) (d := 0) (by kernel_rfl) (by kernel_rfl) (by kernel_rfl)) <|
      .cons (d := some 7) (by kernel_rfl) (does_load (t := 3) (x := .tmp 6) (k := 1) (off := 0) (b := ⟨[.int .i64 ax, .int .i64 ay], 24, true, 2⟩) (v := .int .i64 ax) (by kernel_rfl) (by kernel_rfl) (by kernel_rfl) (by kernel_rfl)) <|
      .cons (d := some 8) (by kernel_rfl) (does_fieldAddr (s := 24) (x := .tmp 3) (f := 0) (k := 2) (off := 0) (d := 0) (by kernel_rfl) (by kernel_rfl) (by kernel_rfl)) <|
      .cons (d := some 9) (by kernel_rfl) (does_load (t := 3) (x := .tmp 8) (k := 2) (off := 0) (b := ⟨[.int .i64 bx, .int .i64 b_y], 24, true, 2⟩) (v := .int .i64 bx) (by kernel_rfl) (by kernel_rfl) (by kernel_rfl) (by kernel_rfl)) <|
      .cons (d := some 10) (by kernel_rfl) (does_call0 (x := .func 79) (ars := #[.tmp 7, .tmp 9]) (ats := #[3, 3]) (g := 79) (vs := [.int .i64 ax, .int .i64 bx]) (v := .int .i64 (Sp.cmp ax bx)) (by kernel_rfl) (by kernel_rfl) (by kernel_rfl) (by kernel_rfl) (compare_ok ax bx) (by kernel_rfl) (by kernel_rfl)) <|
      .cons (d := some 5) (by kernel_rfl) (does_assign (x := .tmp 10) (v := .int .i64 (Sp.cmp ax bx)) (by kernel_rfl) (by kernel_rfl)) <|
      .nil _ _) ?_
  refine aw_weak (weak_b (T := [(2, .pointer (some ⟨1, 0, none⟩)), (3, .pointer (some ⟨2, 0, none⟩)), (4, .int .i64 0), (5, .int .i64 (Sp.cmp ax bx))]) (L := [(1, ⟨[.int .i64 ax, .int .i64 ay], 24, true, 2⟩), (2, ⟨[.int .i64 bx, .int .i64 b_y], 24, true, 2⟩)]) (by kernel_rfl) (by kernel_rfl) (by kernel_rfl)) ?_
  refine aw_plain_seq (r := sub (bodyOf Try.f33) [true, false, true, false]) (y := sub (bodyOf Try.f33) [true, false, true, true]) (id := 2) (ops := regOps (sub (bodyOf Try.f33) [true, false, true, false])) (by kernel_rfl) (by kernel_rfl) (by kernel_rfl) (by kernel_rfl) (
      .cons (d := some 11) (by kernel_rfl) (does_move (x := .tmp 5) (v := .int .i64 (Sp.cmp ax bx)) (by kernel_rfl) (by kernel_rfl)) <|
      .cons (d := some 12) (by kernel_rfl) (does_pure (v := .bool ((Sp.cmp ax bx) != 0)) (by kernel_rfl) (fun w => by kernel_rfl) (by kernel_rfl)) <|
      .nil _ _) ?_
  refine aw_weak (weak_b (T := [(2, .pointer (some ⟨1, 0, none⟩)), (3, .pointer (some ⟨2, 0, none⟩)), (4, .int .i64 0), (5, .int .i64 (Sp.cmp ax bx)), (12, .bool ((Sp.cmp ax bx) != 0))]) (L := [(1, ⟨[.int .i64 ax, .int .i64 ay], 24, true, 2⟩), (2, ⟨[.int .i64 bx, .int .i64 b_y], 24, true, 2⟩)]) (by kernel_rfl) (by kernel_rfl) (by kernel_rfl)) ?_
  refine aw_cond (o := .tmp 12) (b := (Sp.cmp ax bx) != 0) (x := sub (bodyOf Try.f33) [true, false, true, true, false]) (y := sub (bodyOf Try.f33) [true, false, true, true, true]) (by kernel_rfl) (by kernel_rfl) (fun h1 => ?_) (fun h1 => ?_)
  · have h1p : (¬ ((Sp.cmp ax bx) = 0)) := by first | (simpa using h1) | (have h1q := h1; simp at h1q; omega) | (have h1q := bx1 h1; simp at h1q; omega)
    refine aw_plain_seq (r := sub (bodyOf Try.f33) [true, false, true, true, false, false]) (y := sub (bodyOf Try.f33) [true, false, true, true, false, true]) (id := 3) (ops := regOps (sub (bodyOf Try.f33) [true, false, true, true, false, false])) (by kernel_rfl) (by kernel_rfl) (by kernel_rfl) (by kernel_rfl) (
        .cons (d := some 13) (by kernel_rfl) (does_move (x := .tmp 5) (v := .int .i64 (Sp.cmp ax bx)) (by kernel_rfl) (by kernel_rfl)) <|
        .cons (d := some 4) (by kernel_rfl) (does_assign (x := .tmp 13) (v := .int .i64 (Sp.cmp ax bx)) (by kernel_rfl) (by kernel_rfl)) <|
        .nil _ _) ?_
    refine aw_weak (weak_b (T := [(2, .pointer (some ⟨1, 0, none⟩)), (3, .pointer (some ⟨2, 0, none⟩)), (4, .int .i64 (Sp.cmp ax bx)), (5, .int .i64 (Sp.cmp ax bx)), (12, .bool ((Sp.cmp ax bx) != 0))]) (L := [(1, ⟨[.int .i64 ax, .int .i64 ay], 24, true, 2⟩), (2, ⟨[.int .i64 bx, .int .i64 b_y], 24, true, 2⟩)]) (by kernel_rfl) (by kernel_rfl) (by kernel_rfl)) ?_
    refine aw_ret (by kernel_rfl) ?_
    refine then_ret ?_
    exact end_ret (vs := [.int .i64 (Sp.cmp ax bx)]) (by kernel_rfl) (show (.int .i64 (Sp.cmp ax bx) : Value) = (.int .i64 (Sp.pcmp ax ay bx b_y)) from (congrArg (Value.int .i64) (show (Sp.cmp ax bx) = (Sp.pcmp ax ay bx b_y) from by (simp [Sp.pcmp, *])))) trivial
  · have h1p : ¬ (¬ ((Sp.cmp ax bx) = 0)) := by first | (simpa using h1) | (have h1q := h1; simp at h1q; omega) | (have h1q := bx2 h1; simp at h1q; omega)
    refine aw_skip (by kernel_rfl) ?_
    refine then_normal ?_
    refine aw_plain_seq (r := sub (bodyOf Try.f33) [true, true, false]) (y := sub (bodyOf Try.f33) [true, true, true]) (id := 4) (ops := regOps (sub (bodyOf Try.f33) [true, true, false])) (by kernel_rfl) (by kernel_rfl) (by kernel_rfl) (by kernel_rfl) (
        .cons (d := some 14) (by kernel_rfl) (does_fieldAddr (s := 24) (x := .tmp 2) (f := 1) (k := 1) (off := 0) (d := 1) (by kernel_rfl) (by kernel_rfl) (by kernel_rfl)) <|
        .cons (d := some 15) (by kernel_rfl) (does_load (t := 3) (x := .tmp 14) (k := 1) (off := 1) (b := ⟨[.int .i64 ax, .int .i64 ay], 24, true, 2⟩) (v := .int .i64 ay) (by kernel_rfl) (by kernel_rfl) (by kernel_rfl) (by kernel_rfl)) <|
        .cons (d := some 16) (by kernel_rfl) (does_fieldAddr (s := 24) (x := .tmp 3) (f := 1) (k := 2) (off := 0) (d := 1) (by kernel_rfl) (by kernel_rfl) (by kernel_rfl)) <|
        .cons (d := some 17) (by kernel_rfl) (does_load (t := 3) (x := .tmp 16) (k := 2) (off := 1) (b := ⟨[.int .i64 bx, .int .i64 b_y], 24, true, 2⟩) (v := .int .i64 b_y) (by kernel_rfl) (by kernel_rfl) (by kernel_rfl) (by kernel_rfl)) <|
        .cons (d := some 18) (by kernel_rfl) (does_call0 (x := .func 79) (ars := #[.tmp 15, .tmp 17]) (ats := #[3, 3]) (g := 79) (vs := [.int .i64 ay, .int .i64 b_y]) (v := .int .i64 (Sp.cmp ay b_y)) (by kernel_rfl) (by kernel_rfl) (by kernel_rfl) (by kernel_rfl) (compare_ok ay b_y) (by kernel_rfl) (by kernel_rfl)) <|
        .cons (d := some 4) (by kernel_rfl) (does_assign (x := .tmp 18) (v := .int .i64 (Sp.cmp ay b_y)) (by kernel_rfl) (by kernel_rfl)) <|
        .nil _ _) ?_
    refine aw_weak (weak_b (T := [(2, .pointer (some ⟨1, 0, none⟩)), (3, .pointer (some ⟨2, 0, none⟩)), (4, .int .i64 (Sp.cmp ay b_y)), (5, .int .i64 (Sp.cmp ax bx)), (12, .bool ((Sp.cmp ax bx) != 0))]) (L := [(1, ⟨[.int .i64 ax, .int .i64 ay], 24, true, 2⟩), (2, ⟨[.int .i64 bx, .int .i64 b_y], 24, true, 2⟩)]) (by kernel_rfl) (by kernel_rfl) (by kernel_rfl)) ?_
    refine aw_ret (by kernel_rfl) ?_
    exact end_ret (vs := [.int .i64 (Sp.cmp ay b_y)]) (by kernel_rfl) (show (.int .i64 (Sp.cmp ay b_y) : Value) = (.int .i64 (Sp.pcmp ax ay bx b_y)) from (congrArg (Value.int .i64) (show (Sp.cmp ay b_y) = (Sp.pcmp ax ay bx b_y) from by (simp [Sp.pcmp, *])))) trivial

theorem half_ok (x y : Int) :
    AC Try.prog 91 0 ([.agg #[.int .i64 x, .int .i64 y]]) [] (.int .i64 (Sp.half x y)) [] := by
  refine ac_intro (fn := Try.f91) (c := bodyOf Try.f91) Try.func91 (by kernel_rfl) (by kernel_rfl) (by kernel_rfl) ?_
  intro w0 W pin
  refine aw_sub ?_
  refine aw_plain_seq (r := sub (bodyOf Try.f91) [false]) (y := sub (bodyOf Try.f91) [true]) (id := 0) (ops := regOps (sub (bodyOf Try.f91) [false])) (by kernel_rfl) (by kernel_rfl) (by kernel_rfl) (by kernel_rfl) (
      .cons (d := some 1) (by kernel_rfl) (does_box (t := 24) (x := .tmp 0) (k := 1) (v := .agg #[.int .i64 x, .int .i64 y]) (cells := [.int .i64 x, .int .i64 y]) (by kernel_rfl) (by kernel_rfl) (by kernel_rfl) (by kernel_rfl)) <|
      .cons (d := some 2) (by kernel_rfl) (does_assign (x := .const (.int .i64 0)) (v := .int .i64 0) (by kernel_rfl) (by kernel_rfl)) <|
      .nil _ _) ?_
  refine aw_weak (weak_b (T := [(1, .pointer (some ⟨1, 0, none⟩)), (2, .int .i64 0)]) (L := [(1, ⟨[.int .i64 x, .int .i64 y], 24, true, 2⟩)]) (by kernel_rfl) (by kernel_rfl) (by kernel_rfl)) ?_
  refine aw_seq (x := sub (bodyOf Try.f91) [true, false]) (y := sub (bodyOf Try.f91) [true, true]) (by kernel_rfl) ?_
  refine aw_block (id := 0) (x := sub (bodyOf Try.f91) [true, false, true]) (by kernel_rfl) ?_
  rcases Bool.eq_false_or_eq_true (x == 0) with h1 | h1
  · have h1p : ((x = 0)) := by first | (simpa using h1) | (have h1q := h1; simp at h1q; omega) | (have h1q := bx1 h1; simp at h1q; omega)
    refine aw_plain_seq (r := sub (bodyOf Try.f91) [true, false, true, false]) (y := sub (bodyOf Try.f91) [true, false, true, true]) (id := 1) (ops := regOps (sub (bodyOf Try.f91) [true, false, true, false])) (by kernel_rfl) (by kernel_rfl) (by kernel_rfl) (by kernel_rfl) (
        .cons (d := some 4) (by kernel_rfl) (does_fieldAddr (s := 24) (x := .tmp 1) (f := 0) (k := 1) (off := 0) (d := 0) (by kernel_rfl) (by kernel_rfl) (by kernel_rfl)) <|
        .cons (d := some 5) (by kernel_rfl) (does_load (t := 3) (x := .tmp 4) (k := 1) (off := 0) (b := ⟨[.int .i64 x, .int .i64 y], 24, true, 2⟩) (v := .int .i64 x) (by kernel_rfl) (by kernel_rfl) (by kernel_rfl) (by kernel_rfl)) <|
        .cons (d := some 6) (by kernel_rfl) (does_bool (b' := true) (does_pure (v := .bool (x == 0)) (by kernel_rfl) (fun w => by kernel_rfl) (by kernel_rfl)) (h1)) <|
        .cons (d := some 7) (by kernel_rfl) (does_move (x := .tmp 6) (v := .bool true) (by kernel_rfl) (by kernel_rfl)) <|
        .cons (d := some 8) (by kernel_rfl) (does_fieldAddr (s := 24) (x := .tmp 1) (f := 1) (k := 1) (off := 0) (d := 1) (by kernel_rfl) (by kernel_rfl) (by kernel_rfl)) <|
        .cons (d := some 9) (by kernel_rfl) (does_load (t := 3) (x := .tmp 8) (k := 1) (off := 1) (b := ⟨[.int .i64 x, .int .i64 y], 24, true, 2⟩) (v := .int .i64 y) (by kernel_rfl) (by kernel_rfl) (by kernel_rfl) (by kernel_rfl)) <|
        .cons (d := some 10) (by kernel_rfl) (does_pure (v := .bool (y == 0)) (by kernel_rfl) (fun w => by kernel_rfl) (by kernel_rfl)) <|
        .cons (d := some 11) (by kernel_rfl) (does_pick (c := .tmp 7) (x := .tmp 10) (y := .const (.bool false)) (b := true) (v := .bool (y == 0)) (by kernel_rfl) (by kernel_rfl) (by kernel_rfl)) <|
        .cons (d := some 3) (by kernel_rfl) (does_assign (x := .tmp 11) (v := .bool (y == 0)) (by kernel_rfl) (by kernel_rfl)) <|
        .nil _ _) ?_
    refine aw_weak (weak_b (T := [(1, .pointer (some ⟨1, 0, none⟩)), (2, .int .i64 0), (3, .bool (y == 0))]) (L := [(1, ⟨[.int .i64 x, .int .i64 y], 24, true, 2⟩)]) (by kernel_rfl) (by kernel_rfl) (by kernel_rfl)) ?_
    refine aw_cond (o := .tmp 3) (b := y == 0) (x := sub (bodyOf Try.f91) [true, false, true, true, false]) (y := sub (bodyOf Try.f91) [true, false, true, true, true]) (by kernel_rfl) (by kernel_rfl) (fun h2 => ?_) (fun h2 => ?_)
    · have h2p : ((y = 0)) := by first | (simpa using h2) | (have h2q := h2; simp at h2q; omega) | (have h2q := bx1 h2; simp at h2q; omega)
      refine aw_plain_seq (r := sub (bodyOf Try.f91) [true, false, true, true, false, false]) (y := sub (bodyOf Try.f91) [true, false, true, true, false, true]) (id := 2) (ops := regOps (sub (bodyOf Try.f91) [true, false, true, true, false, false])) (by kernel_rfl) (by kernel_rfl) (by kernel_rfl) (by kernel_rfl) (
          .cons (d := some 2) (by kernel_rfl) (does_assign (x := .const (.int .i64 0)) (v := .int .i64 0) (by kernel_rfl) (by kernel_rfl)) <|
          .nil _ _) ?_
      refine aw_weak (weak_b (T := [(1, .pointer (some ⟨1, 0, none⟩)), (2, .int .i64 0), (3, .bool (y == 0))]) (L := [(1, ⟨[.int .i64 x, .int .i64 y], 24, true, 2⟩)]) (by kernel_rfl) (by kernel_rfl) (by kernel_rfl)) ?_
      refine aw_ret (by kernel_rfl) ?_
      refine block_ret ?_
      refine then_ret ?_
      exact end_ret (vs := [.int .i64 0]) (by kernel_rfl) (show (.int .i64 0 : Value) = (.int .i64 (Sp.half x y)) from (congrArg (Value.int .i64) (show 0 = (Sp.half x y) from by (simp only [Sp.half]; (repeat' split) <;> omega)))) trivial
    · have h2p : ¬ ((y = 0)) := by first | (simpa using h2) | (have h2q := h2; simp at h2q; omega) | (have h2q := bx2 h2; simp at h2q; omega)
      rcases Bool.eq_false_or_eq_true (decide (y > 0)) with h3 | h3
      · have h3p : ((y > 0)) := by first | (simpa using h3) | (have h3q := h3; simp at h3q; omega) | (have h3q := bx1 h3; simp at h3q; omega)
        refine aw_plain_seq (r := sub (bodyOf Try.f91) [true, false, true, true, true, false]) (y := sub (bodyOf Try.f91) [true, false, true, true, true, true]) (id := 3) (ops := regOps (sub (bodyOf Try.f91) [true, false, true, true, true, false])) (by kernel_rfl) (by kernel_rfl) (by kernel_rfl) (by kernel_rfl) (
            .cons (d := some 13) (by kernel_rfl) (does_fieldAddr (s := 24) (x := .tmp 1) (f := 1) (k := 1) (off := 0) (d := 1) (by kernel_rfl) (by kernel_rfl) (by kernel_rfl)) <|
            .cons (d := some 14) (by kernel_rfl) (does_load (t := 3) (x := .tmp 13) (k := 1) (off := 1) (b := ⟨[.int .i64 x, .int .i64 y], 24, true, 2⟩) (v := .int .i64 y) (by kernel_rfl) (by kernel_rfl) (by kernel_rfl) (by kernel_rfl)) <|
            .cons (d := some 15) (by kernel_rfl) (does_bool (b' := true) (does_pure (v := .bool (decide (y > 0))) (by kernel_rfl) (fun w => by kernel_rfl) (by kernel_rfl)) (h3)) <|
            .cons (d := some 16) (by kernel_rfl) (does_move (x := .tmp 15) (v := .bool true) (by kernel_rfl) (by kernel_rfl)) <|
            .cons (d := some 17) (by kernel_rfl) (does_skipB (by kernel_rfl)) <|
            .cons (d := some 18) (by kernel_rfl) (does_skipB (by kernel_rfl)) <|
            .cons (d := some 19) (by kernel_rfl) (does_skipB (by kernel_rfl)) <|
            .cons (d := some 20) (by kernel_rfl) (does_skipB (by kernel_rfl)) <|
            .cons (d := some 21) (by kernel_rfl) (does_skipB (by kernel_rfl)) <|
            .cons (d := some 22) (by kernel_rfl) (does_skipB (by kernel_rfl)) <|
            .cons (d := some 23) (by kernel_rfl) (does_skipB (by kernel_rfl)) <|
            .cons (d := some 24) (by kernel_rfl) (does_skipB (by kernel_rfl)) <|
            .cons (d := some 25) (by kernel_rfl) (does_pick (c := .tmp 16) (x := .const (.bool true)) (y := .tmp 24) (b := true) (v := .bool true) (by kernel_rfl) (by kernel_rfl) (by kernel_rfl)) <|
            .cons (d := some 12) (by kernel_rfl) (does_assign (x := .tmp 25) (v := .bool true) (by kernel_rfl) (by kernel_rfl)) <|
            .nil _ _) ?_
        refine aw_weak (weak_b (T := [(1, .pointer (some ⟨1, 0, none⟩)), (2, .int .i64 0), (3, .bool (y == 0)), (12, .bool true)]) (L := [(1, ⟨[.int .i64 x, .int .i64 y], 24, true, 2⟩)]) (by kernel_rfl) (by kernel_rfl) (by kernel_rfl)) ?_
        refine aw_true (o := .tmp 12) (x := sub (bodyOf Try.f91) [true, false, true, true, true, true, false]) (y := sub (bodyOf Try.f91) [true, false, true, true, true, true, true]) (by kernel_rfl) (by kernel_rfl) ?_
        refine aw_plain_seq (r := sub (bodyOf Try.f91) [true, false, true, true, true, true, false, false]) (y := sub (bodyOf Try.f91) [true, false, true, true, true, true, false, true]) (id := 4) (ops := regOps (sub (bodyOf Try.f91) [true, false, true, true, true, true, false, false])) (by kernel_rfl) (by kernel_rfl) (by kernel_rfl) (by kernel_rfl) (
            .cons (d := some 2) (by kernel_rfl) (does_assign (x := .const (.int .i64 1)) (v := .int .i64 1) (by kernel_rfl) (by kernel_rfl)) <|
            .nil _ _) ?_
        refine aw_weak (weak_b (T := [(1, .pointer (some ⟨1, 0, none⟩)), (2, .int .i64 1), (3, .bool (y == 0)), (12, .bool true)]) (L := [(1, ⟨[.int .i64 x, .int .i64 y], 24, true, 2⟩)]) (by kernel_rfl) (by kernel_rfl) (by kernel_rfl)) ?_
        refine aw_ret (by kernel_rfl) ?_
        refine block_ret ?_
        refine then_ret ?_
        exact end_ret (vs := [.int .i64 1]) (by kernel_rfl) (show (.int .i64 1 : Value) = (.int .i64 (Sp.half x y)) from (congrArg (Value.int .i64) (show 1 = (Sp.half x y) from by (simp only [Sp.half]; (repeat' split) <;> omega)))) trivial
      · have h3p : ¬ ((y > 0)) := by first | (simpa using h3) | (have h3q := h3; simp at h3q; omega) | (have h3q := bx2 h3; simp at h3q; omega)
        refine aw_plain_seq (r := sub (bodyOf Try.f91) [true, false, true, true, true, false]) (y := sub (bodyOf Try.f91) [true, false, true, true, true, true]) (id := 3) (ops := regOps (sub (bodyOf Try.f91) [true, false, true, true, true, false])) (by kernel_rfl) (by kernel_rfl) (by kernel_rfl) (by kernel_rfl) (
            .cons (d := some 13) (by kernel_rfl) (does_fieldAddr (s := 24) (x := .tmp 1) (f := 1) (k := 1) (off := 0) (d := 1) (by kernel_rfl) (by kernel_rfl) (by kernel_rfl)) <|
            .cons (d := some 14) (by kernel_rfl) (does_load (t := 3) (x := .tmp 13) (k := 1) (off := 1) (b := ⟨[.int .i64 x, .int .i64 y], 24, true, 2⟩) (v := .int .i64 y) (by kernel_rfl) (by kernel_rfl) (by kernel_rfl) (by kernel_rfl)) <|
            .cons (d := some 15) (by kernel_rfl) (does_bool (b' := false) (does_pure (v := .bool (decide (y > 0))) (by kernel_rfl) (fun w => by kernel_rfl) (by kernel_rfl)) (h3)) <|
            .cons (d := some 16) (by kernel_rfl) (does_move (x := .tmp 15) (v := .bool false) (by kernel_rfl) (by kernel_rfl)) <|
            .cons (d := some 17) (by kernel_rfl) (does_fieldAddr (s := 24) (x := .tmp 1) (f := 1) (k := 1) (off := 0) (d := 1) (by kernel_rfl) (by kernel_rfl) (by kernel_rfl)) <|
            .cons (d := some 18) (by kernel_rfl) (does_load (t := 3) (x := .tmp 17) (k := 1) (off := 1) (b := ⟨[.int .i64 x, .int .i64 y], 24, true, 2⟩) (v := .int .i64 y) (by kernel_rfl) (by kernel_rfl) (by kernel_rfl) (by kernel_rfl)) <|
            .cons (d := some 19) (by kernel_rfl) (does_bool (b' := false) (does_pure (v := .bool (y == 0)) (by kernel_rfl) (fun w => by kernel_rfl) (by kernel_rfl)) (h2)) <|
            .cons (d := some 20) (by kernel_rfl) (does_move (x := .tmp 19) (v := .bool false) (by kernel_rfl) (by kernel_rfl)) <|
            .cons (d := some 21) (by kernel_rfl) (does_skipB (by kernel_rfl)) <|
            .cons (d := some 22) (by kernel_rfl) (does_skipB (by kernel_rfl)) <|
            .cons (d := some 23) (by kernel_rfl) (does_skipB (by kernel_rfl)) <|
            .cons (d := some 24) (by kernel_rfl) (does_pick (c := .tmp 20) (x := .tmp 23) (y := .const (.bool false)) (b := false) (v := .bool false) (by kernel_rfl) (by kernel_rfl) (by kernel_rfl)) <|
            .cons (d := some 25) (by kernel_rfl) (does_pick (c := .tmp 16) (x := .const (.bool true)) (y := .tmp 24) (b := false) (v := .bool false) (by kernel_rfl) (by kernel_rfl) (by kernel_rfl)) <|
            .cons (d := some 12) (by kernel_rfl) (does_assign (x := .tmp 25) (v := .bool false) (by kernel_rfl) (by kernel_rfl)) <|
            .nil _ _) ?_
        refine aw_weak (weak_b (T := [(1, .pointer (some ⟨1, 0, none⟩)), (2, .int .i64 0), (3, .bool (y == 0)), (12, .bool false)]) (L := [(1, ⟨[.int .i64 x, .int .i64 y], 24, true, 2⟩)]) (by kernel_rfl) (by kernel_rfl) (by kernel_rfl)) ?_
        refine aw_false (o := .tmp 12) (x := sub (bodyOf Try.f91) [true, false, true, true, true, true, false]) (y := sub (bodyOf Try.f91) [true, false, true, true, true, true, true]) (by kernel_rfl) (by kernel_rfl) ?_
        refine aw_skip (by kernel_rfl) ?_
        refine block_normal ?_
        refine then_normal ?_
        refine aw_plain_seq (r := sub (bodyOf Try.f91) [true, true, false]) (y := sub (bodyOf Try.f91) [true, true, true]) (id := 5) (ops := regOps (sub (bodyOf Try.f91) [true, true, false])) (by kernel_rfl) (by kernel_rfl) (by kernel_rfl) (by kernel_rfl) (
            .cons (d := some 2) (by kernel_rfl) (does_assign (x := .const (.int .i64 2)) (v := .int .i64 2) (by kernel_rfl) (by kernel_rfl)) <|
            .nil _ _) ?_
        refine aw_weak (weak_b (T := [(1, .pointer (some ⟨1, 0, none⟩)), (2, .int .i64 2), (3, .bool (y == 0)), (12, .bool false)]) (L := [(1, ⟨[.int .i64 x, .int .i64 y], 24, true, 2⟩)]) (by kernel_rfl) (by kernel_rfl) (by kernel_rfl)) ?_
        refine aw_ret (by kernel_rfl) ?_
        exact end_ret (vs := [.int .i64 2]) (by kernel_rfl) (show (.int .i64 2 : Value) = (.int .i64 (Sp.half x y)) from (congrArg (Value.int .i64) (show 2 = (Sp.half x y) from by (simp only [Sp.half]; (repeat' split) <;> omega)))) trivial
  · have h1p : ¬ ((x = 0)) := by first | (simpa using h1) | (have h1q := h1; simp at h1q; omega) | (have h1q := bx2 h1; simp at h1q; omega)
    refine aw_plain_seq (r := sub (bodyOf Try.f91) [true, false, true, false]) (y := sub (bodyOf Try.f91) [true, false, true, true]) (id := 1) (ops := regOps (sub (bodyOf Try.f91) [true, false, true, false])) (by kernel_rfl) (by kernel_rfl) (by kernel_rfl) (by kernel_rfl) (
        .cons (d := some 4) (by kernel_rfl) (does_fieldAddr (s := 24) (x := .tmp 1) (f := 0) (k := 1) (off := 0) (d := 0) (by kernel_rfl) (by kernel_rfl) (by kernel_rfl)) <|
        .cons (d := some 5) (by kernel_rfl) (does_load (t := 3) (x := .tmp 4) (k := 1) (off := 0) (b := ⟨[.int .i64 x, .int .i64 y], 24, true, 2⟩) (v := .int .i64 x) (by kernel_rfl) (by kernel_rfl) (by kernel_rfl) (by kernel_rfl)) <|
        .cons (d := some 6) (by kernel_rfl) (does_bool (b' := false) (does_pure (v := .bool (x == 0)) (by kernel_rfl) (fun w => by kernel_rfl) (by kernel_rfl)) (h1)) <|
        .cons (d := some 7) (by kernel_rfl) (does_move (x := .tmp 6) (v := .bool false) (by kernel_rfl) (by kernel_rfl)) <|
        .cons (d := some 8) (by kernel_rfl) (does_skipB (by kernel_rfl)) <|
        .cons (d := some 9) (by kernel_rfl) (does_skipB (by kernel_rfl)) <|
        .cons (d := some 10) (by kernel_rfl) (does_skipB (by kernel_rfl)) <|
        .cons (d := some 11) (by kernel_rfl) (does_pick (c := .tmp 7) (x := .tmp 10) (y := .const (.bool false)) (b := false) (v := .bool false) (by kernel_rfl) (by kernel_rfl) (by kernel_rfl)) <|
        .cons (d := some 3) (by kernel_rfl) (does_assign (x := .tmp 11) (v := .bool false) (by kernel_rfl) (by kernel_rfl)) <|
        .nil _ _) ?_
    refine aw_weak (weak_b (T := [(1, .pointer (some ⟨1, 0, none⟩)), (2, .int .i64 0), (3, .bool false)]) (L := [(1, ⟨[.int .i64 x, .int .i64 y], 24, true, 2⟩)]) (by kernel_rfl) (by kernel_rfl) (by kernel_rfl)) ?_
    refine aw_false (o := .tmp 3) (x := sub (bodyOf Try.f91) [true, false, true, true, false]) (y := sub (bodyOf Try.f91) [true, false, true, true, true]) (by kernel_rfl) (by kernel_rfl) ?_
    rcases Bool.eq_false_or_eq_true (decide (y > 0)) with h4 | h4
    · have h4p : ((y > 0)) := by first | (simpa using h4) | (have h4q := h4; simp at h4q; omega) | (have h4q := bx1 h4; simp at h4q; omega)
      refine aw_plain_seq (r := sub (bodyOf Try.f91) [true, false, true, true, true, false]) (y := sub (bodyOf Try.f91) [true, false, true, true, true, true]) (id := 3) (ops := regOps (sub (bodyOf Try.f91) [true, false, true, true, true, false])) (by kernel_rfl) (by kernel_rfl) (by kernel_rfl) (by kernel_rfl) (
          .cons (d := some 13) (by kernel_rfl) (does_fieldAddr (s := 24) (x := .tmp 1) (f := 1) (k := 1) (off := 0) (d := 1) (by kernel_rfl) (by kernel_rfl) (by kernel_rfl)) <|
          .cons (d := some 14) (by kernel_rfl) (does_load (t := 3) (x := .tmp 13) (k := 1) (off := 1) (b := ⟨[.int .i64 x, .int .i64 y], 24, true, 2⟩) (v := .int .i64 y) (by kernel_rfl) (by kernel_rfl) (by kernel_rfl) (by kernel_rfl)) <|
          .cons (d := some 15) (by kernel_rfl) (does_bool (b' := true) (does_pure (v := .bool (decide (y > 0))) (by kernel_rfl) (fun w => by kernel_rfl) (by kernel_rfl)) (h4)) <|
          .cons (d := some 16) (by kernel_rfl) (does_move (x := .tmp 15) (v := .bool true) (by kernel_rfl) (by kernel_rfl)) <|
          .cons (d := some 17) (by kernel_rfl) (does_skipB (by kernel_rfl)) <|
          .cons (d := some 18) (by kernel_rfl) (does_skipB (by kernel_rfl)) <|
          .cons (d := some 19) (by kernel_rfl) (does_skipB (by kernel_rfl)) <|
          .cons (d := some 20) (by kernel_rfl) (does_skipB (by kernel_rfl)) <|
          .cons (d := some 21) (by kernel_rfl) (does_skipB (by kernel_rfl)) <|
          .cons (d := some 22) (by kernel_rfl) (does_skipB (by kernel_rfl)) <|
          .cons (d := some 23) (by kernel_rfl) (does_skipB (by kernel_rfl)) <|
          .cons (d := some 24) (by kernel_rfl) (does_skipB (by kernel_rfl)) <|
          .cons (d := some 25) (by kernel_rfl) (does_pick (c := .tmp 16) (x := .const (.bool true)) (y := .tmp 24) (b := true) (v := .bool true) (by kernel_rfl) (by kernel_rfl) (by kernel_rfl)) <|
          .cons (d := some 12) (by kernel_rfl) (does_assign (x := .tmp 25) (v := .bool true) (by kernel_rfl) (by kernel_rfl)) <|
          .nil _ _) ?_
      refine aw_weak (weak_b (T := [(1, .pointer (some ⟨1, 0, none⟩)), (2, .int .i64 0), (3, .bool false), (12, .bool true)]) (L := [(1, ⟨[.int .i64 x, .int .i64 y], 24, true, 2⟩)]) (by kernel_rfl) (by kernel_rfl) (by kernel_rfl)) ?_
      refine aw_true (o := .tmp 12) (x := sub (bodyOf Try.f91) [true, false, true, true, true, true, false]) (y := sub (bodyOf Try.f91) [true, false, true, true, true, true, true]) (by kernel_rfl) (by kernel_rfl) ?_
      refine aw_plain_seq (r := sub (bodyOf Try.f91) [true, false, true, true, true, true, false, false]) (y := sub (bodyOf Try.f91) [true, false, true, true, true, true, false, true]) (id := 4) (ops := regOps (sub (bodyOf Try.f91) [true, false, true, true, true, true, false, false])) (by kernel_rfl) (by kernel_rfl) (by kernel_rfl) (by kernel_rfl) (
          .cons (d := some 2) (by kernel_rfl) (does_assign (x := .const (.int .i64 1)) (v := .int .i64 1) (by kernel_rfl) (by kernel_rfl)) <|
          .nil _ _) ?_
      refine aw_weak (weak_b (T := [(1, .pointer (some ⟨1, 0, none⟩)), (2, .int .i64 1), (3, .bool false), (12, .bool true)]) (L := [(1, ⟨[.int .i64 x, .int .i64 y], 24, true, 2⟩)]) (by kernel_rfl) (by kernel_rfl) (by kernel_rfl)) ?_
      refine aw_ret (by kernel_rfl) ?_
      refine block_ret ?_
      refine then_ret ?_
      exact end_ret (vs := [.int .i64 1]) (by kernel_rfl) (show (.int .i64 1 : Value) = (.int .i64 (Sp.half x y)) from (congrArg (Value.int .i64) (show 1 = (Sp.half x y) from by (simp only [Sp.half]; (repeat' split) <;> omega)))) trivial
    · have h4p : ¬ ((y > 0)) := by first | (simpa using h4) | (have h4q := h4; simp at h4q; omega) | (have h4q := bx2 h4; simp at h4q; omega)
      rcases Bool.eq_false_or_eq_true (y == 0) with h5 | h5
      · have h5p : ((y = 0)) := by first | (simpa using h5) | (have h5q := h5; simp at h5q; omega) | (have h5q := bx1 h5; simp at h5q; omega)
        refine aw_plain_seq (r := sub (bodyOf Try.f91) [true, false, true, true, true, false]) (y := sub (bodyOf Try.f91) [true, false, true, true, true, true]) (id := 3) (ops := regOps (sub (bodyOf Try.f91) [true, false, true, true, true, false])) (by kernel_rfl) (by kernel_rfl) (by kernel_rfl) (by kernel_rfl) (
            .cons (d := some 13) (by kernel_rfl) (does_fieldAddr (s := 24) (x := .tmp 1) (f := 1) (k := 1) (off := 0) (d := 1) (by kernel_rfl) (by kernel_rfl) (by kernel_rfl)) <|
            .cons (d := some 14) (by kernel_rfl) (does_load (t := 3) (x := .tmp 13) (k := 1) (off := 1) (b := ⟨[.int .i64 x, .int .i64 y], 24, true, 2⟩) (v := .int .i64 y) (by kernel_rfl) (by kernel_rfl) (by kernel_rfl) (by kernel_rfl)) <|
            .cons (d := some 15) (by kernel_rfl) (does_bool (b' := false) (does_pure (v := .bool (decide (y > 0))) (by kernel_rfl) (fun w => by kernel_rfl) (by kernel_rfl)) (h4)) <|
            .cons (d := some 16) (by kernel_rfl) (does_move (x := .tmp 15) (v := .bool false) (by kernel_rfl) (by kernel_rfl)) <|
            .cons (d := some 17) (by kernel_rfl) (does_fieldAddr (s := 24) (x := .tmp 1) (f := 1) (k := 1) (off := 0) (d := 1) (by kernel_rfl) (by kernel_rfl) (by kernel_rfl)) <|
            .cons (d := some 18) (by kernel_rfl) (does_load (t := 3) (x := .tmp 17) (k := 1) (off := 1) (b := ⟨[.int .i64 x, .int .i64 y], 24, true, 2⟩) (v := .int .i64 y) (by kernel_rfl) (by kernel_rfl) (by kernel_rfl) (by kernel_rfl)) <|
            .cons (d := some 19) (by kernel_rfl) (does_bool (b' := true) (does_pure (v := .bool (y == 0)) (by kernel_rfl) (fun w => by kernel_rfl) (by kernel_rfl)) (h5)) <|
            .cons (d := some 20) (by kernel_rfl) (does_move (x := .tmp 19) (v := .bool true) (by kernel_rfl) (by kernel_rfl)) <|
            .cons (d := some 21) (by kernel_rfl) (does_fieldAddr (s := 24) (x := .tmp 1) (f := 0) (k := 1) (off := 0) (d := 0) (by kernel_rfl) (by kernel_rfl) (by kernel_rfl)) <|
            .cons (d := some 22) (by kernel_rfl) (does_load (t := 3) (x := .tmp 21) (k := 1) (off := 0) (b := ⟨[.int .i64 x, .int .i64 y], 24, true, 2⟩) (v := .int .i64 x) (by kernel_rfl) (by kernel_rfl) (by kernel_rfl) (by kernel_rfl)) <|
            .cons (d := some 23) (by kernel_rfl) (does_pure (v := .bool (decide (x > 0))) (by kernel_rfl) (fun w => by kernel_rfl) (by kernel_rfl)) <|
            .cons (d := some 24) (by kernel_rfl) (does_pick (c := .tmp 20) (x := .tmp 23) (y := .const (.bool false)) (b := true) (v := .bool (decide (x > 0))) (by kernel_rfl) (by kernel_rfl) (by kernel_rfl)) <|
            .cons (d := some 25) (by kernel_rfl) (does_pick (c := .tmp 16) (x := .const (.bool true)) (y := .tmp 24) (b := false) (v := .bool (decide (x > 0))) (by kernel_rfl) (by kernel_rfl) (by kernel_rfl)) <|
            .cons (d := some 12) (by kernel_rfl) (does_assign (x := .tmp 25) (v := .bool (decide (x > 0))) (by kernel_rfl) (by kernel_rfl)) <|
            .nil _ _) ?_
        refine aw_weak (weak_b (T := [(1, .pointer (some ⟨1, 0, none⟩)), (2, .int .i64 0), (3, .bool false), (12, .bool (decide (x > 0)))]) (L := [(1, ⟨[.int .i64 x, .int .i64 y], 24, true, 2⟩)]) (by kernel_rfl) (by kernel_rfl) (by kernel_rfl)) ?_
        refine aw_cond (o := .tmp 12) (b := decide (x > 0)) (x := sub (bodyOf Try.f91) [true, false, true, true, true, true, false]) (y := sub (bodyOf Try.f91) [true, false, true, true, true, true, true]) (by kernel_rfl) (by kernel_rfl) (fun h6 => ?_) (fun h6 => ?_)
        · have h6p : ((x > 0)) := by first | (simpa using h6) | (have h6q := h6; simp at h6q; omega) | (have h6q := bx1 h6; simp at h6q; omega)
          refine aw_plain_seq (r := sub (bodyOf Try.f91) [true, false, true, true, true, true, false, false]) (y := sub (bodyOf Try.f91) [true, false, true, true, true, true, false, true]) (id := 4) (ops := regOps (sub (bodyOf Try.f91) [true, false, true, true, true, true, false, false])) (by kernel_rfl) (by kernel_rfl) (by kernel_rfl) (by kernel_rfl) (
              .cons (d := some 2) (by kernel_rfl) (does_assign (x := .const (.int .i64 1)) (v := .int .i64 1) (by kernel_rfl) (by kernel_rfl)) <|
              .nil _ _) ?_
          refine aw_weak (weak_b (T := [(1, .pointer (some ⟨1, 0, none⟩)), (2, .int .i64 1), (3, .bool false), (12, .bool (decide (x > 0)))]) (L := [(1, ⟨[.int .i64 x, .int .i64 y], 24, true, 2⟩)]) (by kernel_rfl) (by kernel_rfl) (by kernel_rfl)) ?_
          refine aw_ret (by kernel_rfl) ?_
          refine block_ret ?_
          refine then_ret ?_
          exact end_ret (vs := [.int .i64 1]) (by kernel_rfl) (show (.int .i64 1 : Value) = (.int .i64 (Sp.half x y)) from (congrArg (Value.int .i64) (show 1 = (Sp.half x y) from by (simp only [Sp.half]; (repeat' split) <;> omega)))) trivial
        · have h6p : ¬ ((x > 0)) := by first | (simpa using h6) | (have h6q := h6; simp at h6q; omega) | (have h6q := bx2 h6; simp at h6q; omega)
          refine aw_skip (by kernel_rfl) ?_
          refine block_normal ?_
          refine then_normal ?_
          refine aw_plain_seq (r := sub (bodyOf Try.f91) [true, true, false]) (y := sub (bodyOf Try.f91) [true, true, true]) (id := 5) (ops := regOps (sub (bodyOf Try.f91) [true, true, false])) (by kernel_rfl) (by kernel_rfl) (by kernel_rfl) (by kernel_rfl) (
              .cons (d := some 2) (by kernel_rfl) (does_assign (x := .const (.int .i64 2)) (v := .int .i64 2) (by kernel_rfl) (by kernel_rfl)) <|
              .nil _ _) ?_
          refine aw_weak (weak_b (T := [(1, .pointer (some ⟨1, 0, none⟩)), (2, .int .i64 2), (3, .bool false), (12, .bool (decide (x > 0)))]) (L := [(1, ⟨[.int .i64 x, .int .i64 y], 24, true, 2⟩)]) (by kernel_rfl) (by kernel_rfl) (by kernel_rfl)) ?_
          refine aw_ret (by kernel_rfl) ?_
          exact end_ret (vs := [.int .i64 2]) (by kernel_rfl) (show (.int .i64 2 : Value) = (.int .i64 (Sp.half x y)) from (congrArg (Value.int .i64) (show 2 = (Sp.half x y) from by (simp only [Sp.half]; (repeat' split) <;> omega)))) trivial
      · have h5p : ¬ ((y = 0)) := by first | (simpa using h5) | (have h5q := h5; simp at h5q; omega) | (have h5q := bx2 h5; simp at h5q; omega)
        refine aw_plain_seq (r := sub (bodyOf Try.f91) [true, false, true, true, true, false]) (y := sub (bodyOf Try.f91) [true, false, true, true, true, true]) (id := 3) (ops := regOps (sub (bodyOf Try.f91) [true, false, true, true, true, false])) (by kernel_rfl) (by kernel_rfl) (by kernel_rfl) (by kernel_rfl) (
            .cons (d := some 13) (by kernel_rfl) (does_fieldAddr (s := 24) (x := .tmp 1) (f := 1) (k := 1) (off := 0) (d := 1) (by kernel_rfl) (by kernel_rfl) (by kernel_rfl)) <|
            .cons (d := some 14) (by kernel_rfl) (does_load (t := 3) (x := .tmp 13) (k := 1) (off := 1) (b := ⟨[.int .i64 x, .int .i64 y], 24, true, 2⟩) (v := .int .i64 y) (by kernel_rfl) (by kernel_rfl) (by kernel_rfl) (by kernel_rfl)) <|
            .cons (d := some 15) (by kernel_rfl) (does_bool (b' := false) (does_pure (v := .bool (decide (y > 0))) (by kernel_rfl) (fun w => by kernel_rfl) (by kernel_rfl)) (h4)) <|
            .cons (d := some 16) (by kernel_rfl) (does_move (x := .tmp 15) (v := .bool false) (by kernel_rfl) (by kernel_rfl)) <|
            .cons (d := some 17) (by kernel_rfl) (does_fieldAddr (s := 24) (x := .tmp 1) (f := 1) (k := 1) (off := 0) (d := 1) (by kernel_rfl) (by kernel_rfl) (by kernel_rfl)) <|
            .cons (d := some 18) (by kernel_rfl) (does_load (t := 3) (x := .tmp 17) (k := 1) (off := 1) (b := ⟨[.int .i64 x, .int .i64 y], 24, true, 2⟩) (v := .int .i64 y) (by kernel_rfl) (by kernel_rfl) (by kernel_rfl) (by kernel_rfl)) <|
            .cons (d := some 19) (by kernel_rfl) (does_bool (b' := false) (does_pure (v := .bool (y == 0)) (by kernel_rfl) (fun w => by kernel_rfl) (by kernel_rfl)) (h5)) <|
            .cons (d := some 20) (by kernel_rfl) (does_move (x := .tmp 19) (v := .bool false) (by kernel_rfl) (by kernel_rfl)) <|
            .cons (d := some 21) (by kernel_rfl) (does_skipB (by kernel_rfl)) <|
            .cons (d := some 22) (by kernel_rfl) (does_skipB (by kernel_rfl)) <|
            .cons (d := some 23) (by kernel_rfl) (does_skipB (by kernel_rfl)) <|
            .cons (d := some 24) (by kernel_rfl) (does_pick (c := .tmp 20) (x := .tmp 23) (y := .const (.bool false)) (b := false) (v := .bool false) (by kernel_rfl) (by kernel_rfl) (by kernel_rfl)) <|
            .cons (d := some 25) (by kernel_rfl) (does_pick (c := .tmp 16) (x := .const (.bool true)) (y := .tmp 24) (b := false) (v := .bool false) (by kernel_rfl) (by kernel_rfl) (by kernel_rfl)) <|
            .cons (d := some 12) (by kernel_rfl) (does_assign (x := .tmp 25) (v := .bool false) (by kernel_rfl) (by kernel_rfl)) <|
            .nil _ _) ?_
        refine aw_weak (weak_b (T := [(1, .pointer (some ⟨1, 0, none⟩)), (2, .int .i64 0), (3, .bool false), (12, .bool false)]) (L := [(1, ⟨[.int .i64 x, .int .i64 y], 24, true, 2⟩)]) (by kernel_rfl) (by kernel_rfl) (by kernel_rfl)) ?_
        refine aw_false (o := .tmp 12) (x := sub (bodyOf Try.f91) [true, false, true, true, true, true, false]) (y := sub (bodyOf Try.f91) [true, false, true, true, true, true, true]) (by kernel_rfl) (by kernel_rfl) ?_
        refine aw_skip (by kernel_rfl) ?_
        refine block_normal ?_
        refine then_normal ?_
        refine aw_plain_seq (r := sub (bodyOf Try.f91) [true, true, false]) (y := sub (bodyOf Try.f91) [true, true, true]) (id := 5) (ops := regOps (sub (bodyOf Try.f91) [true, true, false])) (by kernel_rfl) (by kernel_rfl) (by kernel_rfl) (by kernel_rfl) (
            .cons (d := some 2) (by kernel_rfl) (does_assign (x := .const (.int .i64 2)) (v := .int .i64 2) (by kernel_rfl) (by kernel_rfl)) <|
            .nil _ _) ?_
        refine aw_weak (weak_b (T := [(1, .pointer (some ⟨1, 0, none⟩)), (2, .int .i64 2), (3, .bool false), (12, .bool false)]) (L := [(1, ⟨[.int .i64 x, .int .i64 y], 24, true, 2⟩)]) (by kernel_rfl) (by kernel_rfl) (by kernel_rfl)) ?_
        refine aw_ret (by kernel_rfl) ?_
        exact end_ret (vs := [.int .i64 2]) (by kernel_rfl) (show (.int .i64 2 : Value) = (.int .i64 (Sp.half x y)) from (congrArg (Value.int .i64) (show 2 = (Sp.half x y) from by (simp only [Sp.half]; (repeat' split) <;> omega)))) trivial

theorem angle_ok (dx dy e_x e_y : Int) :
    AC Try.prog 59 0 ([.agg #[.int .i64 dx, .int .i64 dy], .agg #[.int .i64 e_x, .int .i64 e_y]]) [] (.int .i64 (Sp.angle (Sp.lim 2097152 dx) (Sp.lim 2097152 dy) (Sp.lim 2097152 e_x) (Sp.lim 2097152 e_y))) [] := by
  have qdx := Sp.lim_bd (m := 2097152) (by decide) dx; have qdy := Sp.lim_bd (m := 2097152) (by decide) dy; have qe_x := Sp.lim_bd (m := 2097152) (by decide) e_x; have qe_y := Sp.lim_bd (m := 2097152) (by decide) e_y; have p1 := Sp.mul_bd (a := Sp.lim 2097152 dy) (b := Sp.lim 2097152 e_x) (A := 2097152) (B := 2097152) (by omega) (by omega) (by omega) (by omega); have p2 := Sp.mul_bd (a := Sp.lim 2097152 dx) (b := Sp.lim 2097152 e_y) (A := 2097152) (B := 2097152) (by omega) (by omega) (by omega) (by omega)
  refine ac_intro (fn := Try.f59) (c := bodyOf Try.f59) Try.func59 (by kernel_rfl) (by kernel_rfl) (by kernel_rfl) ?_
  intro w0 W pin
  refine aw_sub ?_
  refine aw_plain_seq (r := sub (bodyOf Try.f59) [false]) (y := sub (bodyOf Try.f59) [true]) (id := 0) (ops := regOps (sub (bodyOf Try.f59) [false])) (by kernel_rfl) (by kernel_rfl) (by kernel_rfl) (by kernel_rfl) (
      .cons (d := some 2) (by kernel_rfl) (does_box (t := 24) (x := .tmp 0) (k := 1) (v := .agg #[.int .i64 dx, .int .i64 dy]) (cells := [.int .i64 dx, .int .i64 dy]) (by kernel_rfl) (by kernel_rfl) (by kernel_rfl) (by kernel_rfl)) <|
      .cons (d := some 3) (by kernel_rfl) (does_box (t := 24) (x := .tmp 1) (k := 2) (v := .agg #[.int .i64 e_x, .int .i64 e_y]) (cells := [.int .i64 e_x, .int .i64 e_y]) (by kernel_rfl) (by kernel_rfl) (by kernel_rfl) (by kernel_rfl)) <|
      .cons (d := some 4) (by kernel_rfl) (does_assign (x := .const (.int .i64 0)) (v := .int .i64 0) (by kernel_rfl) (by kernel_rfl)) <|
      .nil _ _) ?_
  refine aw_weak (weak_b (T := [(2, .pointer (some ⟨1, 0, none⟩)), (3, .pointer (some ⟨2, 0, none⟩)), (4, .int .i64 0)]) (L := [(1, ⟨[.int .i64 dx, .int .i64 dy], 24, true, 2⟩), (2, ⟨[.int .i64 e_x, .int .i64 e_y], 24, true, 2⟩)]) (by kernel_rfl) (by kernel_rfl) (by kernel_rfl)) ?_
  refine aw_draws_seq (r := sub (bodyOf Try.f59) [true, false]) (y := sub (bodyOf Try.f59) [true, true]) (id := 1) (ops := regOps (sub (bodyOf Try.f59) [true, false])) [[], [0], [0, 1], [], [3], [0, 1, 2, 3, 4], [0, 1, 2, 3, 4, 5], [0, 1, 2, 3, 4, 5, 6]] (by kernel_rfl) (by kernel_rfl) (by kernel_rfl) (by kernel_rfl) (by kernel_rfl) (by kernel_rfl) (
      .cons (d := some 6) (by kernel_rfl) (does_fieldAddr (s := 24) (x := .tmp 2) (f := 0) (k := 1) (off := 0) (d := 0) (by kernel_rfl) (by kernel_rfl) (by kernel_rfl)) <|
      .cons (d := some 7) (by kernel_rfl) (does_load (t := 3) (x := .tmp 6) (k := 1) (off := 0) (b := ⟨[.int .i64 dx, .int .i64 dy], 24, true, 2⟩) (v := .int .i64 dx) (by kernel_rfl) (by kernel_rfl) (by kernel_rfl) (by kernel_rfl)) <|
      .cons (d := some 8) (by kernel_rfl) (does_call0 (x := .func 78) (ars := #[.tmp 7, .const (.int .i64 2097152)]) (ats := #[3, 3]) (g := 78) (vs := [.int .i64 dx, .int .i64 2097152]) (v := .int .i64 (Sp.lim 2097152 dx)) (by kernel_rfl) (by kernel_rfl) (by kernel_rfl) (by kernel_rfl) (limit_ok dx 2097152 (by decide) (by decide)) (by kernel_rfl) (by kernel_rfl)) <|
      .cons (d := some 9) (by kernel_rfl) (does_fieldAddr (s := 24) (x := .tmp 2) (f := 1) (k := 1) (off := 0) (d := 1) (by kernel_rfl) (by kernel_rfl) (by kernel_rfl)) <|
      .cons (d := some 10) (by kernel_rfl) (does_load (t := 3) (x := .tmp 9) (k := 1) (off := 1) (b := ⟨[.int .i64 dx, .int .i64 dy], 24, true, 2⟩) (v := .int .i64 dy) (by kernel_rfl) (by kernel_rfl) (by kernel_rfl) (by kernel_rfl)) <|
      .cons (d := some 11) (by kernel_rfl) (does_call0 (x := .func 78) (ars := #[.tmp 10, .const (.int .i64 2097152)]) (ats := #[3, 3]) (g := 78) (vs := [.int .i64 dy, .int .i64 2097152]) (v := .int .i64 (Sp.lim 2097152 dy)) (by kernel_rfl) (by kernel_rfl) (by kernel_rfl) (by kernel_rfl) (limit_ok dy 2097152 (by decide) (by decide)) (by kernel_rfl) (by kernel_rfl)) <|
      .cons (d := some 12) (by kernel_rfl) (does_pure (v := .agg #[.int .i64 (Sp.lim 2097152 dx), .int .i64 (Sp.lim 2097152 dy)]) (by kernel_rfl) (fun w => by kernel_rfl) (by kernel_rfl)) <|
      .cons (d := none) (by kernel_rfl) (does_store (t := 24) (x := .tmp 2) (y := .tmp 12) (k := 1) (off := 0) (b := ⟨[.int .i64 dx, .int .i64 dy], 24, true, 2⟩) (v := .agg #[.int .i64 (Sp.lim 2097152 dx), .int .i64 (Sp.lim 2097152 dy)]) (cells := [.int .i64 (Sp.lim 2097152 dx), .int .i64 (Sp.lim 2097152 dy)]) (by kernel_rfl) (by kernel_rfl) (by kernel_rfl) (by kernel_rfl) rfl (by kernel_rfl) (by kernel_rfl) (by kernel_rfl) (by kernel_rfl)) <|
      .nil _ _) ?_
  refine aw_weak (weak_b (T := [(2, .pointer (some ⟨1, 0, none⟩)), (3, .pointer (some ⟨2, 0, none⟩)), (4, .int .i64 0)]) (L := [(1, ⟨[.int .i64 (Sp.lim 2097152 dx), .int .i64 (Sp.lim 2097152 dy)], 24, true, 2⟩), (2, ⟨[.int .i64 e_x, .int .i64 e_y], 24, true, 2⟩)]) (by kernel_rfl) (by kernel_rfl) (by kernel_rfl)) ?_
  refine aw_draws_seq (r := sub (bodyOf Try.f59) [true, true, false]) (y := sub (bodyOf Try.f59) [true, true, true]) (id := 2) (ops := regOps (sub (bodyOf Try.f59) [true, true, false])) [[], [0], [0, 1], [], [3], [0, 1, 2, 3, 4], [0, 1, 2, 3, 4, 5], [0, 1, 2, 3, 4, 5, 6]] (by kernel_rfl) (by kernel_rfl) (by kernel_rfl) (by kernel_rfl) (by kernel_rfl) (by kernel_rfl) (
      .cons (d := some 13) (by kernel_rfl) (does_fieldAddr (s := 24) (x := .tmp 3) (f := 0) (k := 2) (off := 0) (d := 0) (by kernel_rfl) (by kernel_rfl) (by kernel_rfl)) <|
      .cons (d := some 14) (by kernel_rfl) (does_load (t := 3) (x := .tmp 13) (k := 2) (off := 0) (b := ⟨[.int .i64 e_x, .int .i64 e_y], 24, true, 2⟩) (v := .int .i64 e_x) (by kernel_rfl) (by kernel_rfl) (by kernel_rfl) (by kernel_rfl)) <|
      .cons (d := some 15) (by kernel_rfl) (does_call0 (x := .func 78) (ars := #[.tmp 14, .const (.int .i64 2097152)]) (ats := #[3, 3]) (g := 78) (vs := [.int .i64 e_x, .int .i64 2097152]) (v := .int .i64 (Sp.lim 2097152 e_x)) (by kernel_rfl) (by kernel_rfl) (by kernel_rfl) (by kernel_rfl) (limit_ok e_x 2097152 (by decide) (by decide)) (by kernel_rfl) (by kernel_rfl)) <|
      .cons (d := some 16) (by kernel_rfl) (does_fieldAddr (s := 24) (x := .tmp 3) (f := 1) (k := 2) (off := 0) (d := 1) (by kernel_rfl) (by kernel_rfl) (by kernel_rfl)) <|
      .cons (d := some 17) (by kernel_rfl) (does_load (t := 3) (x := .tmp 16) (k := 2) (off := 1) (b := ⟨[.int .i64 e_x, .int .i64 e_y], 24, true, 2⟩) (v := .int .i64 e_y) (by kernel_rfl) (by kernel_rfl) (by kernel_rfl) (by kernel_rfl)) <|
      .cons (d := some 18) (by kernel_rfl) (does_call0 (x := .func 78) (ars := #[.tmp 17, .const (.int .i64 2097152)]) (ats := #[3, 3]) (g := 78) (vs := [.int .i64 e_y, .int .i64 2097152]) (v := .int .i64 (Sp.lim 2097152 e_y)) (by kernel_rfl) (by kernel_rfl) (by kernel_rfl) (by kernel_rfl) (limit_ok e_y 2097152 (by decide) (by decide)) (by kernel_rfl) (by kernel_rfl)) <|
      .cons (d := some 19) (by kernel_rfl) (does_pure (v := .agg #[.int .i64 (Sp.lim 2097152 e_x), .int .i64 (Sp.lim 2097152 e_y)]) (by kernel_rfl) (fun w => by kernel_rfl) (by kernel_rfl)) <|
      .cons (d := none) (by kernel_rfl) (does_store (t := 24) (x := .tmp 3) (y := .tmp 19) (k := 2) (off := 0) (b := ⟨[.int .i64 e_x, .int .i64 e_y], 24, true, 2⟩) (v := .agg #[.int .i64 (Sp.lim 2097152 e_x), .int .i64 (Sp.lim 2097152 e_y)]) (cells := [.int .i64 (Sp.lim 2097152 e_x), .int .i64 (Sp.lim 2097152 e_y)]) (by kernel_rfl) (by kernel_rfl) (by kernel_rfl) (by kernel_rfl) rfl (by kernel_rfl) (by kernel_rfl) (by kernel_rfl) (by kernel_rfl)) <|
      .nil _ _) ?_
  refine aw_weak (weak_b (T := [(2, .pointer (some ⟨1, 0, none⟩)), (3, .pointer (some ⟨2, 0, none⟩)), (4, .int .i64 0)]) (L := [(1, ⟨[.int .i64 (Sp.lim 2097152 dx), .int .i64 (Sp.lim 2097152 dy)], 24, true, 2⟩), (2, ⟨[.int .i64 (Sp.lim 2097152 e_x), .int .i64 (Sp.lim 2097152 e_y)], 24, true, 2⟩)]) (by kernel_rfl) (by kernel_rfl) (by kernel_rfl)) ?_
  refine aw_seq (x := sub (bodyOf Try.f59) [true, true, true, false]) (y := sub (bodyOf Try.f59) [true, true, true, true]) (by kernel_rfl) ?_
  refine aw_draws_seq (r := sub (bodyOf Try.f59) [true, true, true, false, false]) (y := sub (bodyOf Try.f59) [true, true, true, false, true]) (id := 3) (ops := regOps (sub (bodyOf Try.f59) [true, true, true, false, false])) [[], [0], [], [0, 1, 2], [0, 1, 2, 3], [0, 1, 2, 3, 4]] (by kernel_rfl) (by kernel_rfl) (by kernel_rfl) (by kernel_rfl) (by kernel_rfl) (by kernel_rfl) (
      .cons (d := some 20) (by kernel_rfl) (does_load (t := 24) (x := .tmp 2) (k := 1) (off := 0) (b := ⟨[.int .i64 (Sp.lim 2097152 dx), .int .i64 (Sp.lim 2097152 dy)], 24, true, 2⟩) (v := .agg #[.int .i64 (Sp.lim 2097152 dx), .int .i64 (Sp.lim 2097152 dy)]) (by kernel_rfl) (by kernel_rfl) (by kernel_rfl) (by kernel_rfl)) <|
      .cons (d := some 21) (by kernel_rfl) (does_call0 (x := .func 91) (ars := #[.tmp 20]) (ats := #[24]) (g := 91) (vs := [.agg #[.int .i64 (Sp.lim 2097152 dx), .int .i64 (Sp.lim 2097152 dy)]]) (v := .int .i64 (Sp.half (Sp.lim 2097152 dx) (Sp.lim 2097152 dy))) (by kernel_rfl) (by kernel_rfl) (by kernel_rfl) (by kernel_rfl) (half_ok (Sp.lim 2097152 dx) (Sp.lim 2097152 dy)) (by kernel_rfl) (by kernel_rfl)) <|
      .cons (d := some 22) (by kernel_rfl) (does_load (t := 24) (x := .tmp 3) (k := 2) (off := 0) (b := ⟨[.int .i64 (Sp.lim 2097152 e_x), .int .i64 (Sp.lim 2097152 e_y)], 24, true, 2⟩) (v := .agg #[.int .i64 (Sp.lim 2097152 e_x), .int .i64 (Sp.lim 2097152 e_y)]) (by kernel_rfl) (by kernel_rfl) (by kernel_rfl) (by kernel_rfl)) <|
      .cons (d := some 23) (by kernel_rfl) (does_call0 (x := .func 91) (ars := #[.tmp 22]) (ats := #[24]) (g := 91) (vs := [.agg #[.int .i64 (Sp.lim 2097152 e_x), .int .i64 (Sp.lim 2097152 e_y)]]) (v := .int .i64 (Sp.half (Sp.lim 2097152 e_x) (Sp.lim 2097152 e_y))) (by kernel_rfl) (by kernel_rfl) (by kernel_rfl) (by kernel_rfl) (half_ok (Sp.lim 2097152 e_x) (Sp.lim 2097152 e_y)) (by kernel_rfl) (by kernel_rfl)) <|
      .cons (d := some 24) (by kernel_rfl) (does_call0 (x := .func 79) (ars := #[.tmp 21, .tmp 23]) (ats := #[3, 3]) (g := 79) (vs := [.int .i64 (Sp.half (Sp.lim 2097152 dx) (Sp.lim 2097152 dy)), .int .i64 (Sp.half (Sp.lim 2097152 e_x) (Sp.lim 2097152 e_y))]) (v := .int .i64 (Sp.cmp (Sp.half (Sp.lim 2097152 dx) (Sp.lim 2097152 dy)) (Sp.half (Sp.lim 2097152 e_x) (Sp.lim 2097152 e_y)))) (by kernel_rfl) (by kernel_rfl) (by kernel_rfl) (by kernel_rfl) (compare_ok (Sp.half (Sp.lim 2097152 dx) (Sp.lim 2097152 dy)) (Sp.half (Sp.lim 2097152 e_x) (Sp.lim 2097152 e_y))) (by kernel_rfl) (by kernel_rfl)) <|
      .cons (d := some 5) (by kernel_rfl) (does_assign (x := .tmp 24) (v := .int .i64 (Sp.cmp (Sp.half (Sp.lim 2097152 dx) (Sp.lim 2097152 dy)) (Sp.half (Sp.lim 2097152 e_x) (Sp.lim 2097152 e_y)))) (by kernel_rfl) (by kernel_rfl)) <|
      .nil _ _) ?_
  refine aw_weak (weak_b (T := [(2, .pointer (some ⟨1, 0, none⟩)), (3, .pointer (some ⟨2, 0, none⟩)), (4, .int .i64 0), (5, .int .i64 (Sp.cmp (Sp.half (Sp.lim 2097152 dx) (Sp.lim 2097152 dy)) (Sp.half (Sp.lim 2097152 e_x) (Sp.lim 2097152 e_y))))]) (L := [(1, ⟨[.int .i64 (Sp.lim 2097152 dx), .int .i64 (Sp.lim 2097152 dy)], 24, true, 2⟩), (2, ⟨[.int .i64 (Sp.lim 2097152 e_x), .int .i64 (Sp.lim 2097152 e_y)], 24, true, 2⟩)]) (by kernel_rfl) (by kernel_rfl) (by kernel_rfl)) ?_
  refine aw_plain_seq (r := sub (bodyOf Try.f59) [true, true, true, false, true, false]) (y := sub (bodyOf Try.f59) [true, true, true, false, true, true]) (id := 4) (ops := regOps (sub (bodyOf Try.f59) [true, true, true, false, true, false])) (by kernel_rfl) (by kernel_rfl) (by kernel_rfl) (by kernel_rfl) (
      .cons (d := some 25) (by kernel_rfl) (does_move (x := .tmp 5) (v := .int .i64 (Sp.cmp (Sp.half (Sp.lim 2097152 dx) (Sp.lim 2097152 dy)) (Sp.half (Sp.lim 2097152 e_x) (Sp.lim 2097152 e_y)))) (by kernel_rfl) (by kernel_rfl)) <|
      .cons (d := some 26) (by kernel_rfl) (does_pure (v := .bool ((Sp.cmp (Sp.half (Sp.lim 2097152 dx) (Sp.lim 2097152 dy)) (Sp.half (Sp.lim 2097152 e_x) (Sp.lim 2097152 e_y))) != 0)) (by kernel_rfl) (fun w => by kernel_rfl) (by kernel_rfl)) <|
      .nil _ _) ?_
  refine aw_weak (weak_b (T := [(2, .pointer (some ⟨1, 0, none⟩)), (3, .pointer (some ⟨2, 0, none⟩)), (4, .int .i64 0), (5, .int .i64 (Sp.cmp (Sp.half (Sp.lim 2097152 dx) (Sp.lim 2097152 dy)) (Sp.half (Sp.lim 2097152 e_x) (Sp.lim 2097152 e_y)))), (26, .bool ((Sp.cmp (Sp.half (Sp.lim 2097152 dx) (Sp.lim 2097152 dy)) (Sp.half (Sp.lim 2097152 e_x) (Sp.lim 2097152 e_y))) != 0))]) (L := [(1, ⟨[.int .i64 (Sp.lim 2097152 dx), .int .i64 (Sp.lim 2097152 dy)], 24, true, 2⟩), (2, ⟨[.int .i64 (Sp.lim 2097152 e_x), .int .i64 (Sp.lim 2097152 e_y)], 24, true, 2⟩)]) (by kernel_rfl) (by kernel_rfl) (by kernel_rfl)) ?_
  refine aw_cond (o := .tmp 26) (b := (Sp.cmp (Sp.half (Sp.lim 2097152 dx) (Sp.lim 2097152 dy)) (Sp.half (Sp.lim 2097152 e_x) (Sp.lim 2097152 e_y))) != 0) (x := sub (bodyOf Try.f59) [true, true, true, false, true, true, false]) (y := sub (bodyOf Try.f59) [true, true, true, false, true, true, true]) (by kernel_rfl) (by kernel_rfl) (fun h1 => ?_) (fun h1 => ?_)
  · have h1p : (¬ ((Sp.cmp (Sp.half (Sp.lim 2097152 dx) (Sp.lim 2097152 dy)) (Sp.half (Sp.lim 2097152 e_x) (Sp.lim 2097152 e_y))) = 0)) := by first | (simpa using h1) | (have h1q := h1; simp at h1q; omega) | (have h1q := bx1 h1; simp at h1q; omega)
    refine aw_plain_seq (r := sub (bodyOf Try.f59) [true, true, true, false, true, true, false, false]) (y := sub (bodyOf Try.f59) [true, true, true, false, true, true, false, true]) (id := 5) (ops := regOps (sub (bodyOf Try.f59) [true, true, true, false, true, true, false, false])) (by kernel_rfl) (by kernel_rfl) (by kernel_rfl) (by kernel_rfl) (
        .cons (d := some 27) (by kernel_rfl) (does_move (x := .tmp 5) (v := .int .i64 (Sp.cmp (Sp.half (Sp.lim 2097152 dx) (Sp.lim 2097152 dy)) (Sp.half (Sp.lim 2097152 e_x) (Sp.lim 2097152 e_y)))) (by kernel_rfl) (by kernel_rfl)) <|
        .cons (d := some 4) (by kernel_rfl) (does_assign (x := .tmp 27) (v := .int .i64 (Sp.cmp (Sp.half (Sp.lim 2097152 dx) (Sp.lim 2097152 dy)) (Sp.half (Sp.lim 2097152 e_x) (Sp.lim 2097152 e_y)))) (by kernel_rfl) (by kernel_rfl)) <|
        .nil _ _) ?_
    refine aw_weak (weak_b (T := [(2, .pointer (some ⟨1, 0, none⟩)), (3, .pointer (some ⟨2, 0, none⟩)), (4, .int .i64 (Sp.cmp (Sp.half (Sp.lim 2097152 dx) (Sp.lim 2097152 dy)) (Sp.half (Sp.lim 2097152 e_x) (Sp.lim 2097152 e_y)))), (5, .int .i64 (Sp.cmp (Sp.half (Sp.lim 2097152 dx) (Sp.lim 2097152 dy)) (Sp.half (Sp.lim 2097152 e_x) (Sp.lim 2097152 e_y)))), (26, .bool ((Sp.cmp (Sp.half (Sp.lim 2097152 dx) (Sp.lim 2097152 dy)) (Sp.half (Sp.lim 2097152 e_x) (Sp.lim 2097152 e_y))) != 0))]) (L := [(1, ⟨[.int .i64 (Sp.lim 2097152 dx), .int .i64 (Sp.lim 2097152 dy)], 24, true, 2⟩), (2, ⟨[.int .i64 (Sp.lim 2097152 e_x), .int .i64 (Sp.lim 2097152 e_y)], 24, true, 2⟩)]) (by kernel_rfl) (by kernel_rfl) (by kernel_rfl)) ?_
    refine aw_ret (by kernel_rfl) ?_
    refine then_ret ?_
    exact end_ret (vs := [.int .i64 (Sp.cmp (Sp.half (Sp.lim 2097152 dx) (Sp.lim 2097152 dy)) (Sp.half (Sp.lim 2097152 e_x) (Sp.lim 2097152 e_y)))]) (by kernel_rfl) (show (.int .i64 (Sp.cmp (Sp.half (Sp.lim 2097152 dx) (Sp.lim 2097152 dy)) (Sp.half (Sp.lim 2097152 e_x) (Sp.lim 2097152 e_y))) : Value) = (.int .i64 (Sp.angle (Sp.lim 2097152 dx) (Sp.lim 2097152 dy) (Sp.lim 2097152 e_x) (Sp.lim 2097152 e_y))) from (congrArg (Value.int .i64) (show (Sp.cmp (Sp.half (Sp.lim 2097152 dx) (Sp.lim 2097152 dy)) (Sp.half (Sp.lim 2097152 e_x) (Sp.lim 2097152 e_y))) = (Sp.angle (Sp.lim 2097152 dx) (Sp.lim 2097152 dy) (Sp.lim 2097152 e_x) (Sp.lim 2097152 e_y)) from by (simp [Sp.angle, *])))) trivial
  · have h1p : ¬ (¬ ((Sp.cmp (Sp.half (Sp.lim 2097152 dx) (Sp.lim 2097152 dy)) (Sp.half (Sp.lim 2097152 e_x) (Sp.lim 2097152 e_y))) = 0)) := by first | (simpa using h1) | (have h1q := h1; simp at h1q; omega) | (have h1q := bx2 h1; simp at h1q; omega)
    refine aw_skip (by kernel_rfl) ?_
    refine then_normal ?_
    refine aw_plain_seq (r := sub (bodyOf Try.f59) [true, true, true, true, false]) (y := sub (bodyOf Try.f59) [true, true, true, true, true]) (id := 6) (ops := regOps (sub (bodyOf Try.f59) [true, true, true, true, false])) (by kernel_rfl) (by kernel_rfl) (by kernel_rfl) (by kernel_rfl) (
        .cons (d := some 28) (by kernel_rfl) (does_fieldAddr (s := 24) (x := .tmp 2) (f := 1) (k := 1) (off := 0) (d := 1) (by kernel_rfl) (by kernel_rfl) (by kernel_rfl)) <|
        .cons (d := some 29) (by kernel_rfl) (does_load (t := 3) (x := .tmp 28) (k := 1) (off := 1) (b := ⟨[.int .i64 (Sp.lim 2097152 dx), .int .i64 (Sp.lim 2097152 dy)], 24, true, 2⟩) (v := .int .i64 (Sp.lim 2097152 dy)) (by kernel_rfl) (by kernel_rfl) (by kernel_rfl) (by kernel_rfl)) <|
        .cons (d := some 30) (by kernel_rfl) (does_fieldAddr (s := 24) (x := .tmp 3) (f := 0) (k := 2) (off := 0) (d := 0) (by kernel_rfl) (by kernel_rfl) (by kernel_rfl)) <|
        .cons (d := some 31) (by kernel_rfl) (does_load (t := 3) (x := .tmp 30) (k := 2) (off := 0) (b := ⟨[.int .i64 (Sp.lim 2097152 e_x), .int .i64 (Sp.lim 2097152 e_y)], 24, true, 2⟩) (v := .int .i64 (Sp.lim 2097152 e_x)) (by kernel_rfl) (by kernel_rfl) (by kernel_rfl) (by kernel_rfl)) <|
        .cons (d := some 32) (by kernel_rfl) (does_int (n' := (Sp.lim 2097152 dy) * (Sp.lim 2097152 e_x)) (does_pure (v := .int .i64 (IntKind.wrap .i64 ((Sp.lim 2097152 dy) * (Sp.lim 2097152 e_x)))) (by kernel_rfl) (fun w => by kernel_rfl) (by kernel_rfl)) (wrap_i64 (by omega) (by omega))) <|
        .cons (d := some 33) (by kernel_rfl) (does_fieldAddr (s := 24) (x := .tmp 2) (f := 0) (k := 1) (off := 0) (d := 0) (by kernel_rfl) (by kernel_rfl) (by kernel_rfl)) <|
        .cons (d := some 34) (by kernel_rfl) (does_load (t := 3) (x := .tmp 33) (k := 1) (off := 0) (b := ⟨[.int .i64 (Sp.lim 2097152 dx), .int .i64 (Sp.lim 2097152 dy)], 24, true, 2⟩) (v := .int .i64 (Sp.lim 2097152 dx)) (by kernel_rfl) (by kernel_rfl) (by kernel_rfl) (by kernel_rfl)) <|
        .cons (d := some 35) (by kernel_rfl) (does_fieldAddr (s := 24) (x := .tmp 3) (f := 1) (k := 2) (off := 0) (d := 1) (by kernel_rfl) (by kernel_rfl) (by kernel_rfl)) <|
        .cons (d := some 36) (by kernel_rfl) (does_load (t := 3) (x := .tmp 35) (k := 2) (off := 1) (b := ⟨[.int .i64 (Sp.lim 2097152 e_x), .int .i64 (Sp.lim 2097152 e_y)], 24, true, 2⟩) (v := .int .i64 (Sp.lim 2097152 e_y)) (by kernel_rfl) (by kernel_rfl) (by kernel_rfl) (by kernel_rfl)) <|
        .cons (d := some 37) (by kernel_rfl) (does_int (n' := (Sp.lim 2097152 dx) * (Sp.lim 2097152 e_y)) (does_pure (v := .int .i64 (IntKind.wrap .i64 ((Sp.lim 2097152 dx) * (Sp.lim 2097152 e_y)))) (by kernel_rfl) (fun w => by kernel_rfl) (by kernel_rfl)) (wrap_i64 (by omega) (by omega))) <|
        .cons (d := some 38) (by kernel_rfl) (does_call0 (x := .func 79) (ars := #[.tmp 32, .tmp 37]) (ats := #[3, 3]) (g := 79) (vs := [.int .i64 ((Sp.lim 2097152 dy) * (Sp.lim 2097152 e_x)), .int .i64 ((Sp.lim 2097152 dx) * (Sp.lim 2097152 e_y))]) (v := .int .i64 (Sp.cmp ((Sp.lim 2097152 dy) * (Sp.lim 2097152 e_x)) ((Sp.lim 2097152 dx) * (Sp.lim 2097152 e_y)))) (by kernel_rfl) (by kernel_rfl) (by kernel_rfl) (by kernel_rfl) (compare_ok ((Sp.lim 2097152 dy) * (Sp.lim 2097152 e_x)) ((Sp.lim 2097152 dx) * (Sp.lim 2097152 e_y))) (by kernel_rfl) (by kernel_rfl)) <|
        .cons (d := some 4) (by kernel_rfl) (does_assign (x := .tmp 38) (v := .int .i64 (Sp.cmp ((Sp.lim 2097152 dy) * (Sp.lim 2097152 e_x)) ((Sp.lim 2097152 dx) * (Sp.lim 2097152 e_y)))) (by kernel_rfl) (by kernel_rfl)) <|
        .nil _ _) ?_
    refine aw_weak (weak_b (T := [(2, .pointer (some ⟨1, 0, none⟩)), (3, .pointer (some ⟨2, 0, none⟩)), (4, .int .i64 (Sp.cmp ((Sp.lim 2097152 dy) * (Sp.lim 2097152 e_x)) ((Sp.lim 2097152 dx) * (Sp.lim 2097152 e_y)))), (5, .int .i64 (Sp.cmp (Sp.half (Sp.lim 2097152 dx) (Sp.lim 2097152 dy)) (Sp.half (Sp.lim 2097152 e_x) (Sp.lim 2097152 e_y)))), (26, .bool ((Sp.cmp (Sp.half (Sp.lim 2097152 dx) (Sp.lim 2097152 dy)) (Sp.half (Sp.lim 2097152 e_x) (Sp.lim 2097152 e_y))) != 0))]) (L := [(1, ⟨[.int .i64 (Sp.lim 2097152 dx), .int .i64 (Sp.lim 2097152 dy)], 24, true, 2⟩), (2, ⟨[.int .i64 (Sp.lim 2097152 e_x), .int .i64 (Sp.lim 2097152 e_y)], 24, true, 2⟩)]) (by kernel_rfl) (by kernel_rfl) (by kernel_rfl)) ?_
    refine aw_ret (by kernel_rfl) ?_
    exact end_ret (vs := [.int .i64 (Sp.cmp ((Sp.lim 2097152 dy) * (Sp.lim 2097152 e_x)) ((Sp.lim 2097152 dx) * (Sp.lim 2097152 e_y)))]) (by kernel_rfl) (show (.int .i64 (Sp.cmp ((Sp.lim 2097152 dy) * (Sp.lim 2097152 e_x)) ((Sp.lim 2097152 dx) * (Sp.lim 2097152 e_y))) : Value) = (.int .i64 (Sp.angle (Sp.lim 2097152 dx) (Sp.lim 2097152 dy) (Sp.lim 2097152 e_x) (Sp.lim 2097152 e_y))) from (congrArg (Value.int .i64) (show (Sp.cmp ((Sp.lim 2097152 dy) * (Sp.lim 2097152 e_x)) ((Sp.lim 2097152 dx) * (Sp.lim 2097152 e_y))) = (Sp.angle (Sp.lim 2097152 dx) (Sp.lim 2097152 dy) (Sp.lim 2097152 e_x) (Sp.lim 2097152 e_y)) from by (simp [Sp.angle, *])))) trivial

theorem terrlaw1_at_ok (x y : Int) :
    AC Try.prog 17 0 ([.int .i64 x, .int .i64 y]) [] (.agg #[.int .i64 x, .int .i64 y]) [] := by
  refine ac_intro (fn := Try.f17) (c := bodyOf Try.f17) Try.func17 (by kernel_rfl) (by kernel_rfl) (by kernel_rfl) ?_
  intro w0 W pin
  refine aw_sub ?_
  refine aw_plain_seq (r := sub (bodyOf Try.f17) [false]) (y := sub (bodyOf Try.f17) [true]) (id := 0) (ops := regOps (sub (bodyOf Try.f17) [false])) (by kernel_rfl) (by kernel_rfl) (by kernel_rfl) (by kernel_rfl) (
      .cons (d := some 4) (by kernel_rfl) (does_alloc (t := 24) (k := 1) (v := .agg #[.int .i64 0, .int .i64 0]) (cells := [.int .i64 0, .int .i64 0]) (by kernel_rfl) (by kernel_rfl) (by kernel_rfl) (by kernel_rfl) (by kernel_rfl)) <|
      .nil _ _) ?_
  refine aw_weak (weak_b (T := [(0, .int .i64 x), (1, .int .i64 y), (4, .pointer (some ⟨1, 0, none⟩))]) (L := [(1, ⟨[.int .i64 0, .int .i64 0], 24, true, 2⟩)]) (by kernel_rfl) (by kernel_rfl) (by kernel_rfl)) ?_
  refine aw_plain_seq (r := sub (bodyOf Try.f17) [true, false]) (y := sub (bodyOf Try.f17) [true, true]) (id := 1) (ops := regOps (sub (bodyOf Try.f17) [true, false])) (by kernel_rfl) (by kernel_rfl) (by kernel_rfl) (by kernel_rfl) (
      .cons (d := some 5) (by kernel_rfl) (does_move (x := .tmp 0) (v := .int .i64 x) (by kernel_rfl) (by kernel_rfl)) <|
      .cons (d := some 6) (by kernel_rfl) (does_move (x := .tmp 1) (v := .int .i64 y) (by kernel_rfl) (by kernel_rfl)) <|
      .cons (d := some 7) (by kernel_rfl) (does_pure (v := .agg #[.int .i64 x, .int .i64 y]) (by kernel_rfl) (fun w => by kernel_rfl) (by kernel_rfl)) <|
      .cons (d := none) (by kernel_rfl) (does_store (t := 24) (x := .tmp 4) (y := .tmp 7) (k := 1) (off := 0) (b := ⟨[.int .i64 0, .int .i64 0], 24, true, 2⟩) (v := .agg #[.int .i64 x, .int .i64 y]) (cells := [.int .i64 x, .int .i64 y]) (by kernel_rfl) (by kernel_rfl) (by kernel_rfl) (by kernel_rfl) rfl (by kernel_rfl) (by kernel_rfl) (by kernel_rfl) (by kernel_rfl)) <|
      .nil _ _) ?_
  refine aw_weak (weak_b (T := [(4, .pointer (some ⟨1, 0, none⟩))]) (L := [(1, ⟨[.int .i64 x, .int .i64 y], 24, true, 2⟩)]) (by kernel_rfl) (by kernel_rfl) (by kernel_rfl)) ?_
  refine aw_ret (by kernel_rfl) ?_
  exact end_ret (vs := [.agg #[.int .i64 x, .int .i64 y]]) (by kernel_rfl) (by kernel_rfl) trivial

theorem terrkeep1_at_ok (x y : Int) :
    AC Try.prog 48 0 ([.int .i64 x, .int .i64 y]) [] (.agg #[.int .i64 x, .int .i64 y]) [] := by
  refine ac_intro (fn := Try.f48) (c := bodyOf Try.f48) Try.func48 (by kernel_rfl) (by kernel_rfl) (by kernel_rfl) ?_
  intro w0 W pin
  refine aw_sub ?_
  refine aw_plain_seq (r := sub (bodyOf Try.f48) [false]) (y := sub (bodyOf Try.f48) [true]) (id := 0) (ops := regOps (sub (bodyOf Try.f48) [false])) (by kernel_rfl) (by kernel_rfl) (by kernel_rfl) (by kernel_rfl) (
      .cons (d := some 4) (by kernel_rfl) (does_alloc (t := 24) (k := 1) (v := .agg #[.int .i64 0, .int .i64 0]) (cells := [.int .i64 0, .int .i64 0]) (by kernel_rfl) (by kernel_rfl) (by kernel_rfl) (by kernel_rfl) (by kernel_rfl)) <|
      .nil _ _) ?_
  refine aw_weak (weak_b (T := [(0, .int .i64 x), (1, .int .i64 y), (4, .pointer (some ⟨1, 0, none⟩))]) (L := [(1, ⟨[.int .i64 0, .int .i64 0], 24, true, 2⟩)]) (by kernel_rfl) (by kernel_rfl) (by kernel_rfl)) ?_
  refine aw_plain_seq (r := sub (bodyOf Try.f48) [true, false]) (y := sub (bodyOf Try.f48) [true, true]) (id := 1) (ops := regOps (sub (bodyOf Try.f48) [true, false])) (by kernel_rfl) (by kernel_rfl) (by kernel_rfl) (by kernel_rfl) (
      .cons (d := some 5) (by kernel_rfl) (does_move (x := .tmp 0) (v := .int .i64 x) (by kernel_rfl) (by kernel_rfl)) <|
      .cons (d := some 6) (by kernel_rfl) (does_move (x := .tmp 1) (v := .int .i64 y) (by kernel_rfl) (by kernel_rfl)) <|
      .cons (d := some 7) (by kernel_rfl) (does_pure (v := .agg #[.int .i64 x, .int .i64 y]) (by kernel_rfl) (fun w => by kernel_rfl) (by kernel_rfl)) <|
      .cons (d := none) (by kernel_rfl) (does_store (t := 24) (x := .tmp 4) (y := .tmp 7) (k := 1) (off := 0) (b := ⟨[.int .i64 0, .int .i64 0], 24, true, 2⟩) (v := .agg #[.int .i64 x, .int .i64 y]) (cells := [.int .i64 x, .int .i64 y]) (by kernel_rfl) (by kernel_rfl) (by kernel_rfl) (by kernel_rfl) rfl (by kernel_rfl) (by kernel_rfl) (by kernel_rfl) (by kernel_rfl)) <|
      .nil _ _) ?_
  refine aw_weak (weak_b (T := [(4, .pointer (some ⟨1, 0, none⟩))]) (L := [(1, ⟨[.int .i64 x, .int .i64 y], 24, true, 2⟩)]) (by kernel_rfl) (by kernel_rfl) (by kernel_rfl)) ?_
  refine aw_ret (by kernel_rfl) ?_
  exact end_ret (vs := [.agg #[.int .i64 x, .int .i64 y]]) (by kernel_rfl) (by kernel_rfl) trivial

theorem next_own (xs : List Int) (p : Nat) (n : Int) (hp : p < xs.length) (h0 : 0 < n) (hz : n ≤ 9223372036854775807) :
    AC Try.prog 95 2 ([.pointer (some ⟨0, 0, none⟩), .int .i64 n]) [(0, ⟨[.slice (some ⟨1, p, none⟩) (xs.length - p) 0], 93, true, 1⟩), (1, ⟨(xs.map i64v), 3, true, 1⟩)] (.int .i64 (xs.getD p 0 % n)) [(0, ⟨[.slice (some ⟨1, (p + 1), none⟩) (xs.length - p - 1) 0], 93, true, 1⟩), (1, ⟨(xs.map i64v), 3, true, 1⟩)] := by
  refine ac_intro (fn := Try.f95) (c := bodyOf Try.f95) Try.func95 (by kernel_rfl) (by kernel_rfl) (by kernel_rfl) ?_
  intro w0 W pin
  refine aw_sub ?_
  refine aw_plain_seq (r := sub (bodyOf Try.f95) [false]) (y := sub (bodyOf Try.f95) [true]) (id := 0) (ops := regOps (sub (bodyOf Try.f95) [false])) (by kernel_rfl) (by kernel_rfl) (by kernel_rfl) (by kernel_rfl) (
      .cons (d := some 4) (by kernel_rfl) (does_assign (x := .const (.int .i64 0)) (v := .int .i64 0) (by kernel_rfl) (by kernel_rfl)) <|
      .nil _ _) ?_
  refine aw_weak (weak_b (T := [(0, .pointer (some ⟨0, 0, none⟩)), (1, .int .i64 n), (4, .int .i64 0)]) (L := [(0, ⟨[.slice (some ⟨1, p, none⟩) (xs.length - p) 0], 93, true, 1⟩), (1, ⟨(xs.map i64v), 3, true, 1⟩)]) (by kernel_rfl) (by kernel_rfl) (by simp [closedB, valsB, valB, flats_map, List.all_eq_true, i64v, flat1]; try decide)) ?_
  refine aw_seq (x := sub (bodyOf Try.f95) [true, false]) (y := sub (bodyOf Try.f95) [true, true]) (by kernel_rfl) ?_
  refine aw_plain_seq (r := sub (bodyOf Try.f95) [true, false, false]) (y := sub (bodyOf Try.f95) [true, false, true]) (id := 1) (ops := regOps (sub (bodyOf Try.f95) [true, false, false])) (by kernel_rfl) (by kernel_rfl) (by kernel_rfl) (by kernel_rfl) (
      .cons (d := some 6) (by kernel_rfl) (does_move (x := .tmp 0) (v := .pointer (some ⟨0, 0, none⟩)) (by kernel_rfl) (by kernel_rfl)) <|
      .cons (d := some 7) (by kernel_rfl) (does_nilCheck (x := .tmp 6) (A := ⟨0, 0, none⟩) (by kernel_rfl) (by kernel_rfl)) <|
      .cons (d := some 8) (by kernel_rfl) (does_fieldAddr (s := 93) (x := .tmp 7) (f := 0) (k := 0) (off := 0) (d := 0) (by kernel_rfl) (by kernel_rfl) (by kernel_rfl)) <|
      .cons (d := some 9) (by kernel_rfl) (does_load (t := 65) (x := .tmp 8) (k := 0) (off := 0) (b := ⟨[.slice (some ⟨1, p, none⟩) (xs.length - p) 0], 93, true, 1⟩) (v := .slice (some ⟨1, p, none⟩) (xs.length - p) 0) (by kernel_rfl) (by kernel_rfl) (by kernel_rfl) (by kernel_rfl)) <|
      .cons (d := some 10) (by kernel_rfl) (does_len (x := .tmp 9) (t := 65) (k := 1) (off := p) (n := (xs.length - p)) (c := 0) (by kernel_rfl) (by kernel_rfl) (by kernel_rfl)) <|
      .cons (d := some 11) (by kernel_rfl) (does_bool (b' := false) (does_pure (v := .bool ((((xs.length - p) : Nat) : Int) == 0)) (by kernel_rfl) (fun w => by kernel_rfl) (by kernel_rfl)) (by rw [beq_eq_false_iff_ne]; omega)) <|
      .cons (d := some 12) (by kernel_rfl) (does_move (x := .tmp 11) (v := .bool false) (by kernel_rfl) (by kernel_rfl)) <|
      .cons (d := some 13) (by kernel_rfl) (does_move (x := .tmp 1) (v := .int .i64 n) (by kernel_rfl) (by kernel_rfl)) <|
      .cons (d := some 14) (by kernel_rfl) (does_bool (b' := false) (does_pure (v := .bool (decide (n < 1))) (by kernel_rfl) (fun w => by kernel_rfl) (by kernel_rfl)) (decide_eq_false (by omega))) <|
      .cons (d := some 15) (by kernel_rfl) (does_pick (c := .tmp 12) (x := .const (.bool true)) (y := .tmp 14) (b := false) (v := .bool false) (by kernel_rfl) (by kernel_rfl) (by kernel_rfl)) <|
      .nil _ _) ?_
  refine aw_weak (weak_b (T := [(0, .pointer (some ⟨0, 0, none⟩)), (1, .int .i64 n), (4, .int .i64 0), (15, .bool false)]) (L := [(0, ⟨[.slice (some ⟨1, p, none⟩) (xs.length - p) 0], 93, true, 1⟩), (1, ⟨(xs.map i64v), 3, true, 1⟩)]) (by kernel_rfl) (by kernel_rfl) (by simp [closedB, valsB, valB, flats_map, List.all_eq_true, i64v, flat1]; try decide)) ?_
  refine aw_false (o := .tmp 15) (x := sub (bodyOf Try.f95) [true, false, true, false]) (y := sub (bodyOf Try.f95) [true, false, true, true]) (by kernel_rfl) (by kernel_rfl) ?_
  refine aw_skip (by kernel_rfl) ?_
  refine then_normal ?_
  refine aw_plain_seq (r := sub (bodyOf Try.f95) [true, true, false]) (y := sub (bodyOf Try.f95) [true, true, true]) (id := 3) (ops := regOps (sub (bodyOf Try.f95) [true, true, false])) (by kernel_rfl) (by kernel_rfl) (by kernel_rfl) (by kernel_rfl) (
      .cons (d := some 16) (by kernel_rfl) (does_move (x := .tmp 0) (v := .pointer (some ⟨0, 0, none⟩)) (by kernel_rfl) (by kernel_rfl)) <|
      .cons (d := some 17) (by kernel_rfl) (does_nilCheck (x := .tmp 16) (A := ⟨0, 0, none⟩) (by kernel_rfl) (by kernel_rfl)) <|
      .cons (d := some 18) (by kernel_rfl) (does_fieldAddr (s := 93) (x := .tmp 17) (f := 0) (k := 0) (off := 0) (d := 0) (by kernel_rfl) (by kernel_rfl) (by kernel_rfl)) <|
      .cons (d := some 19) (by kernel_rfl) (does_load (t := 65) (x := .tmp 18) (k := 0) (off := 0) (b := ⟨[.slice (some ⟨1, p, none⟩) (xs.length - p) 0], 93, true, 1⟩) (v := .slice (some ⟨1, p, none⟩) (xs.length - p) 0) (by kernel_rfl) (by kernel_rfl) (by kernel_rfl) (by kernel_rfl)) <|
      .cons (d := some 20) (by kernel_rfl) (does_indexSlice (t := 65) (x := .tmp 19) (y := .const (.int .i64 0)) (k := 1) (off := p) (n := (xs.length - p)) (c := 0) (z := 1) (kd := .i64) (j := 0) (by kernel_rfl) (by kernel_rfl) (by kernel_rfl) (by kernel_rfl) (by kernel_rfl) (by omega) (by omega)) <|
      .cons (d := some 21) (by kernel_rfl) (does_load (t := 3) (x := .tmp 20) (k := 1) (off := p + 0 * 1) (b := ⟨(xs.map i64v), 3, true, 1⟩) (v := .int .i64 (xs.getD p 0)) (by kernel_rfl) (by kernel_rfl) (by kernel_rfl) (ldV_map (f := i64v) (j := p) 0 (by kernel_rfl) (by kernel_rfl) hp)) <|
      .cons (d := some 5) (by kernel_rfl) (does_assign (x := .tmp 21) (v := .int .i64 (xs.getD p 0)) (by kernel_rfl) (by kernel_rfl)) <|
      .nil _ _) ?_
  refine aw_weak (weak_b (T := [(0, .pointer (some ⟨0, 0, none⟩)), (1, .int .i64 n), (4, .int .i64 0), (5, .int .i64 (xs.getD p 0)), (15, .bool false)]) (L := [(0, ⟨[.slice (some ⟨1, p, none⟩) (xs.length - p) 0], 93, true, 1⟩), (1, ⟨(xs.map i64v), 3, true, 1⟩)]) (by kernel_rfl) (by kernel_rfl) (by simp [closedB, valsB, valB, flats_map, List.all_eq_true, i64v, flat1]; try decide)) ?_
  refine aw_plain_seq (r := sub (bodyOf Try.f95) [true, true, true, false]) (y := sub (bodyOf Try.f95) [true, true, true, true]) (id := 4) (ops := regOps (sub (bodyOf Try.f95) [true, true, true, false])) (by kernel_rfl) (by kernel_rfl) (by kernel_rfl) (by kernel_rfl) (
      .cons (d := some 22) (by kernel_rfl) (does_move (x := .tmp 0) (v := .pointer (some ⟨0, 0, none⟩)) (by kernel_rfl) (by kernel_rfl)) <|
      .cons (d := some 23) (by kernel_rfl) (does_move (x := .tmp 0) (v := .pointer (some ⟨0, 0, none⟩)) (by kernel_rfl) (by kernel_rfl)) <|
      .cons (d := some 24) (by kernel_rfl) (does_nilCheck (x := .tmp 23) (A := ⟨0, 0, none⟩) (by kernel_rfl) (by kernel_rfl)) <|
      .cons (d := some 25) (by kernel_rfl) (does_fieldAddr (s := 93) (x := .tmp 24) (f := 0) (k := 0) (off := 0) (d := 0) (by kernel_rfl) (by kernel_rfl) (by kernel_rfl)) <|
      .cons (d := some 26) (by kernel_rfl) (does_load (t := 65) (x := .tmp 25) (k := 0) (off := 0) (b := ⟨[.slice (some ⟨1, p, none⟩) (xs.length - p) 0], 93, true, 1⟩) (v := .slice (some ⟨1, p, none⟩) (xs.length - p) 0) (by kernel_rfl) (by kernel_rfl) (by kernel_rfl) (by kernel_rfl)) <|
      .cons (d := some 27) (by kernel_rfl) (does_val (v' := .slice (some ⟨1, (p + 1), none⟩) ((xs.length - p) - 1) 0) (does_slice (t := 65) (x := .tmp 26) (lo := some (.const (.int .i64 1))) (hi := none) (k := 1) (off := p) (n := (xs.length - p)) (c := 0) (z := 1) (l := 1) (h := (((xs.length - p) : Nat) : Int)) (m := ((xs.length - p) - 1)) (b := ⟨(xs.map i64v), 3, true, 1⟩) (by kernel_rfl) (by kernel_rfl) (by kernel_rfl) (by kernel_rfl) (by kernel_rfl) (by kernel_rfl) (by kernel_rfl) (by kernel_rfl) (by omega) (by omega) (by omega) (by omega)) (by kernel_rfl)) <|
      .cons (d := some 28) (by kernel_rfl) (does_nilCheck (x := .tmp 22) (A := ⟨0, 0, none⟩) (by kernel_rfl) (by kernel_rfl)) <|
      .cons (d := some 29) (by kernel_rfl) (does_fieldAddr (s := 93) (x := .tmp 28) (f := 0) (k := 0) (off := 0) (d := 0) (by kernel_rfl) (by kernel_rfl) (by kernel_rfl)) <|
      .cons (d := none) (by kernel_rfl) (does_store (t := 65) (x := .tmp 29) (y := .tmp 27) (k := 0) (off := 0) (b := ⟨[.slice (some ⟨1, p, none⟩) (xs.length - p) 0], 93, true, 1⟩) (v := .slice (some ⟨1, (p + 1), none⟩) ((xs.length - p) - 1) 0) (cells := [.slice (some ⟨1, (p + 1), none⟩) ((xs.length - p) - 1) 0]) (by kernel_rfl) (by kernel_rfl) (by kernel_rfl) (by kernel_rfl) rfl (by kernel_rfl) (by kernel_rfl) (by kernel_rfl) (by kernel_rfl)) <|
      .nil _ _) ?_
  refine aw_weak (weak_b (T := [(0, .pointer (some ⟨0, 0, none⟩)), (1, .int .i64 n), (4, .int .i64 0), (5, .int .i64 (xs.getD p 0)), (15, .bool false)]) (L := [(0, ⟨[.slice (some ⟨1, (p + 1), none⟩) ((xs.length - p) - 1) 0], 93, true, 1⟩), (1, ⟨(xs.map i64v), 3, true, 1⟩)]) (by kernel_rfl) (by kernel_rfl) (by simp [closedB, valsB, valB, flats_map, List.all_eq_true, i64v, flat1]; try decide)) ?_
  refine aw_plain_seq (r := sub (bodyOf Try.f95) [true, true, true, true, false]) (y := sub (bodyOf Try.f95) [true, true, true, true, true]) (id := 5) (ops := regOps (sub (bodyOf Try.f95) [true, true, true, true, false])) (by kernel_rfl) (by kernel_rfl) (by kernel_rfl) (by kernel_rfl) (
      .cons (d := some 30) (by kernel_rfl) (does_move (x := .tmp 5) (v := .int .i64 (xs.getD p 0)) (by kernel_rfl) (by kernel_rfl)) <|
      .cons (d := some 31) (by kernel_rfl) (does_move (x := .tmp 1) (v := .int .i64 n) (by kernel_rfl) (by kernel_rfl)) <|
      .cons (d := some 32) (by kernel_rfl) (does_call0 (x := .func 62) (ars := #[.tmp 30, .tmp 31]) (ats := #[3, 3]) (g := 62) (vs := [.int .i64 (xs.getD p 0), .int .i64 n]) (v := .int .i64 ((xs.getD p 0) % n)) (by kernel_rfl) (by kernel_rfl) (by kernel_rfl) (by kernel_rfl) (below_ok (xs.getD p 0) n (by omega) (by omega)) (by kernel_rfl) (by kernel_rfl)) <|
      .cons (d := some 4) (by kernel_rfl) (does_assign (x := .tmp 32) (v := .int .i64 ((xs.getD p 0) % n)) (by kernel_rfl) (by kernel_rfl)) <|
      .nil _ _) ?_
  refine aw_weak (weak_b (T := [(0, .pointer (some ⟨0, 0, none⟩)), (1, .int .i64 n), (4, .int .i64 ((xs.getD p 0) % n)), (15, .bool false)]) (L := [(0, ⟨[.slice (some ⟨1, (p + 1), none⟩) ((xs.length - p) - 1) 0], 93, true, 1⟩), (1, ⟨(xs.map i64v), 3, true, 1⟩)]) (by kernel_rfl) (by kernel_rfl) (by simp [closedB, valsB, valB, flats_map, List.all_eq_true, i64v, flat1]; try decide)) ?_
  refine aw_ret (by kernel_rfl) ?_
  exact end_ret (vs := [.int .i64 ((xs.getD p 0) % n)]) (by kernel_rfl) (show (.int .i64 ((xs.getD p 0) % n) : Value) = (.int .i64 (xs.getD p 0 % n)) from (congrArg (Value.int .i64) (show ((xs.getD p 0) % n) = (xs.getD p 0 % n) from by rfl))) ⟨(by kernel_rfl), (by kernel_rfl), trivial⟩

theorem next0_own (xs : List Int) (p : Nat) (n : Int) (hp : ¬ p < xs.length) :
    AC Try.prog 95 2 ([.pointer (some ⟨0, 0, none⟩), .int .i64 n]) [(0, ⟨[.slice (some ⟨1, p, none⟩) (xs.length - p) 0], 93, true, 1⟩), (1, ⟨(xs.map i64v), 3, true, 1⟩)] (.int .i64 0) [(0, ⟨[.slice (some ⟨1, p, none⟩) (xs.length - p) 0], 93, true, 1⟩), (1, ⟨(xs.map i64v), 3, true, 1⟩)] := by
  refine ac_intro (fn := Try.f95) (c := bodyOf Try.f95) Try.func95 (by kernel_rfl) (by kernel_rfl) (by kernel_rfl) ?_
  intro w0 W pin
  refine aw_sub ?_
  refine aw_plain_seq (r := sub (bodyOf Try.f95) [false]) (y := sub (bodyOf Try.f95) [true]) (id := 0) (ops := regOps (sub (bodyOf Try.f95) [false])) (by kernel_rfl) (by kernel_rfl) (by kernel_rfl) (by kernel_rfl) (
      .cons (d := some 4) (by kernel_rfl) (does_assign (x := .const (.int .i64 0)) (v := .int .i64 0) (by kernel_rfl) (by kernel_rfl)) <|
      .nil _ _) ?_
  refine aw_weak (weak_b (T := [(0, .pointer (some ⟨0, 0, none⟩)), (1, .int .i64 n), (4, .int .i64 0)]) (L := [(0, ⟨[.slice (some ⟨1, p, none⟩) (xs.length - p) 0], 93, true, 1⟩), (1, ⟨(xs.map i64v), 3, true, 1⟩)]) (by kernel_rfl) (by kernel_rfl) (by simp [closedB, valsB, valB, flats_map, List.all_eq_true, i64v, flat1]; try decide)) ?_
  refine aw_seq (x := sub (bodyOf Try.f95) [true, false]) (y := sub (bodyOf Try.f95) [true, true]) (by kernel_rfl) ?_
  refine aw_plain_seq (r := sub (bodyOf Try.f95) [true, false, false]) (y := sub (bodyOf Try.f95) [true, false, true]) (id := 1) (ops := regOps (sub (bodyOf Try.f95) [true, false, false])) (by kernel_rfl) (by kernel_rfl) (by kernel_rfl) (by kernel_rfl) (
      .cons (d := some 6) (by kernel_rfl) (does_move (x := .tmp 0) (v := .pointer (some ⟨0, 0, none⟩)) (by kernel_rfl) (by kernel_rfl)) <|
      .cons (d := some 7) (by kernel_rfl) (does_nilCheck (x := .tmp 6) (A := ⟨0, 0, none⟩) (by kernel_rfl) (by kernel_rfl)) <|
      .cons (d := some 8) (by kernel_rfl) (does_fieldAddr (s := 93) (x := .tmp 7) (f := 0) (k := 0) (off := 0) (d := 0) (by kernel_rfl) (by kernel_rfl) (by kernel_rfl)) <|
      .cons (d := some 9) (by kernel_rfl) (does_load (t := 65) (x := .tmp 8) (k := 0) (off := 0) (b := ⟨[.slice (some ⟨1, p, none⟩) (xs.length - p) 0], 93, true, 1⟩) (v := .slice (some ⟨1, p, none⟩) (xs.length - p) 0) (by kernel_rfl) (by kernel_rfl) (by kernel_rfl) (by kernel_rfl)) <|
      .cons (d := some 10) (by kernel_rfl) (does_len (x := .tmp 9) (t := 65) (k := 1) (off := p) (n := (xs.length - p)) (c := 0) (by kernel_rfl) (by kernel_rfl) (by kernel_rfl)) <|
      .cons (d := some 11) (by kernel_rfl) (does_bool (b' := true) (does_pure (v := .bool ((((xs.length - p) : Nat) : Int) == 0)) (by kernel_rfl) (fun w => by kernel_rfl) (by kernel_rfl)) (by rw [beq_iff_eq]; omega)) <|
      .cons (d := some 12) (by kernel_rfl) (does_move (x := .tmp 11) (v := .bool true) (by kernel_rfl) (by kernel_rfl)) <|
      .cons (d := some 13) (by kernel_rfl) (does_skipB (by kernel_rfl)) <|
      .cons (d := some 14) (by kernel_rfl) (does_skipB (by kernel_rfl)) <|
      .cons (d := some 15) (by kernel_rfl) (does_pick (c := .tmp 12) (x := .const (.bool true)) (y := .tmp 14) (b := true) (v := .bool true) (by kernel_rfl) (by kernel_rfl) (by kernel_rfl)) <|
      .nil _ _) ?_
  refine aw_weak (weak_b (T := [(0, .pointer (some ⟨0, 0, none⟩)), (1, .int .i64 n), (4, .int .i64 0), (15, .bool true)]) (L := [(0, ⟨[.slice (some ⟨1, p, none⟩) (xs.length - p) 0], 93, true, 1⟩), (1, ⟨(xs.map i64v), 3, true, 1⟩)]) (by kernel_rfl) (by kernel_rfl) (by simp [closedB, valsB, valB, flats_map, List.all_eq_true, i64v, flat1]; try decide)) ?_
  refine aw_true (o := .tmp 15) (x := sub (bodyOf Try.f95) [true, false, true, false]) (y := sub (bodyOf Try.f95) [true, false, true, true]) (by kernel_rfl) (by kernel_rfl) ?_
  refine aw_plain_seq (r := sub (bodyOf Try.f95) [true, false, true, false, false]) (y := sub (bodyOf Try.f95) [true, false, true, false, true]) (id := 2) (ops := regOps (sub (bodyOf Try.f95) [true, false, true, false, false])) (by kernel_rfl) (by kernel_rfl) (by kernel_rfl) (by kernel_rfl) (
      .cons (d := some 4) (by kernel_rfl) (does_assign (x := .const (.int .i64 0)) (v := .int .i64 0) (by kernel_rfl) (by kernel_rfl)) <|
      .nil _ _) ?_
  refine aw_weak (weak_b (T := [(0, .pointer (some ⟨0, 0, none⟩)), (1, .int .i64 n), (4, .int .i64 0), (15, .bool true)]) (L := [(0, ⟨[.slice (some ⟨1, p, none⟩) (xs.length - p) 0], 93, true, 1⟩), (1, ⟨(xs.map i64v), 3, true, 1⟩)]) (by kernel_rfl) (by kernel_rfl) (by simp [closedB, valsB, valB, flats_map, List.all_eq_true, i64v, flat1]; try decide)) ?_
  refine aw_ret (by kernel_rfl) ?_
  refine then_ret ?_
  exact end_ret (vs := [.int .i64 0]) (by kernel_rfl) (by kernel_rfl) ⟨(by kernel_rfl), (by kernel_rfl), trivial⟩

theorem next_ro (xs : List Int) (p : Nat) (n : Int) (hp : p < xs.length) (h0 : 0 < n) (hz : n ≤ 9223372036854775807) :
    AC Try.prog 95 2 ([.pointer (some ⟨0, 0, none⟩), .int .i64 n]) [(0, ⟨[.slice (some ⟨1, p, none⟩) (xs.length - p) 0], 93, true, 1⟩), (1, ⟨(xs.map i64v), 3, false, 1⟩)] (.int .i64 (xs.getD p 0 % n)) [(0, ⟨[.slice (some ⟨1, (p + 1), none⟩) (xs.length - p - 1) 0], 93, true, 1⟩)] := by
  refine ac_intro (fn := Try.f95) (c := bodyOf Try.f95) Try.func95 (by kernel_rfl) (by kernel_rfl) (by kernel_rfl) ?_
  intro w0 W pin
  refine aw_sub ?_
  refine aw_plain_seq (r := sub (bodyOf Try.f95) [false]) (y := sub (bodyOf Try.f95) [true]) (id := 0) (ops := regOps (sub (bodyOf Try.f95) [false])) (by kernel_rfl) (by kernel_rfl) (by kernel_rfl) (by kernel_rfl) (
      .cons (d := some 4) (by kernel_rfl) (does_assign (x := .const (.int .i64 0)) (v := .int .i64 0) (by kernel_rfl) (by kernel_rfl)) <|
      .nil _ _) ?_
  refine aw_weak (weak_b (T := [(0, .pointer (some ⟨0, 0, none⟩)), (1, .int .i64 n), (4, .int .i64 0)]) (L := [(0, ⟨[.slice (some ⟨1, p, none⟩) (xs.length - p) 0], 93, true, 1⟩), (1, ⟨(xs.map i64v), 3, false, 1⟩)]) (by kernel_rfl) (by kernel_rfl) (by simp [closedB, valsB, valB, flats_map, List.all_eq_true, i64v, flat1]; try decide)) ?_
  refine aw_seq (x := sub (bodyOf Try.f95) [true, false]) (y := sub (bodyOf Try.f95) [true, true]) (by kernel_rfl) ?_
  refine aw_plain_seq (r := sub (bodyOf Try.f95) [true, false, false]) (y := sub (bodyOf Try.f95) [true, false, true]) (id := 1) (ops := regOps (sub (bodyOf Try.f95) [true, false, false])) (by kernel_rfl) (by kernel_rfl) (by kernel_rfl) (by kernel_rfl) (
      .cons (d := some 6) (by kernel_rfl) (does_move (x := .tmp 0) (v := .pointer (some ⟨0, 0, none⟩)) (by kernel_rfl) (by kernel_rfl)) <|
      .cons (d := some 7) (by kernel_rfl) (does_nilCheck (x := .tmp 6) (A := ⟨0, 0, none⟩) (by kernel_rfl) (by kernel_rfl)) <|
      .cons (d := some 8) (by kernel_rfl) (does_fieldAddr (s := 93) (x := .tmp 7) (f := 0) (k := 0) (off := 0) (d := 0) (by kernel_rfl) (by kernel_rfl) (by kernel_rfl)) <|
      .cons (d := some 9) (by kernel_rfl) (does_load (t := 65) (x := .tmp 8) (k := 0) (off := 0) (b := ⟨[.slice (some ⟨1, p, none⟩) (xs.length - p) 0], 93, true, 1⟩) (v := .slice (some ⟨1, p, none⟩) (xs.length - p) 0) (by kernel_rfl) (by kernel_rfl) (by kernel_rfl) (by kernel_rfl)) <|
      .cons (d := some 10) (by kernel_rfl) (does_len (x := .tmp 9) (t := 65) (k := 1) (off := p) (n := (xs.length - p)) (c := 0) (by kernel_rfl) (by kernel_rfl) (by kernel_rfl)) <|
      .cons (d := some 11) (by kernel_rfl) (does_bool (b' := false) (does_pure (v := .bool ((((xs.length - p) : Nat) : Int) == 0)) (by kernel_rfl) (fun w => by kernel_rfl) (by kernel_rfl)) (by rw [beq_eq_false_iff_ne]; omega)) <|
      .cons (d := some 12) (by kernel_rfl) (does_move (x := .tmp 11) (v := .bool false) (by kernel_rfl) (by kernel_rfl)) <|
      .cons (d := some 13) (by kernel_rfl) (does_move (x := .tmp 1) (v := .int .i64 n) (by kernel_rfl) (by kernel_rfl)) <|
      .cons (d := some 14) (by kernel_rfl) (does_bool (b' := false) (does_pure (v := .bool (decide (n < 1))) (by kernel_rfl) (fun w => by kernel_rfl) (by kernel_rfl)) (decide_eq_false (by omega))) <|
      .cons (d := some 15) (by kernel_rfl) (does_pick (c := .tmp 12) (x := .const (.bool true)) (y := .tmp 14) (b := false) (v := .bool false) (by kernel_rfl) (by kernel_rfl) (by kernel_rfl)) <|
      .nil _ _) ?_
  refine aw_weak (weak_b (T := [(0, .pointer (some ⟨0, 0, none⟩)), (1, .int .i64 n), (4, .int .i64 0), (15, .bool false)]) (L := [(0, ⟨[.slice (some ⟨1, p, none⟩) (xs.length - p) 0], 93, true, 1⟩), (1, ⟨(xs.map i64v), 3, false, 1⟩)]) (by kernel_rfl) (by kernel_rfl) (by simp [closedB, valsB, valB, flats_map, List.all_eq_true, i64v, flat1]; try decide)) ?_
  refine aw_false (o := .tmp 15) (x := sub (bodyOf Try.f95) [true, false, true, false]) (y := sub (bodyOf Try.f95) [true, false, true, true]) (by kernel_rfl) (by kernel_rfl) ?_
  refine aw_skip (by kernel_rfl) ?_
  refine then_normal ?_
  refine aw_plain_seq (r := sub (bodyOf Try.f95) [true, true, false]) (y := sub (bodyOf Try.f95) [true, true, true]) (id := 3) (ops := regOps (sub (bodyOf Try.f95) [true, true, false])) (by kernel_rfl) (by kernel_rfl) (by kernel_rfl) (by kernel_rfl) (
      .cons (d := some 16) (by kernel_rfl) (does_move (x := .tmp 0) (v := .pointer (some ⟨0, 0, none⟩)) (by kernel_rfl) (by kernel_rfl)) <|
      .cons (d := some 17) (by kernel_rfl) (does_nilCheck (x := .tmp 16) (A := ⟨0, 0, none⟩) (by kernel_rfl) (by kernel_rfl)) <|
      .cons (d := some 18) (by kernel_rfl) (does_fieldAddr (s := 93) (x := .tmp 17) (f := 0) (k := 0) (off := 0) (d := 0) (by kernel_rfl) (by kernel_rfl) (by kernel_rfl)) <|
      .cons (d := some 19) (by kernel_rfl) (does_load (t := 65) (x := .tmp 18) (k := 0) (off := 0) (b := ⟨[.slice (some ⟨1, p, none⟩) (xs.length - p) 0], 93, true, 1⟩) (v := .slice (some ⟨1, p, none⟩) (xs.length - p) 0) (by kernel_rfl) (by kernel_rfl) (by kernel_rfl) (by kernel_rfl)) <|
      .cons (d := some 20) (by kernel_rfl) (does_indexSlice (t := 65) (x := .tmp 19) (y := .const (.int .i64 0)) (k := 1) (off := p) (n := (xs.length - p)) (c := 0) (z := 1) (kd := .i64) (j := 0) (by kernel_rfl) (by kernel_rfl) (by kernel_rfl) (by kernel_rfl) (by kernel_rfl) (by omega) (by omega)) <|
      .cons (d := some 21) (by kernel_rfl) (does_load (t := 3) (x := .tmp 20) (k := 1) (off := p + 0 * 1) (b := ⟨(xs.map i64v), 3, false, 1⟩) (v := .int .i64 (xs.getD p 0)) (by kernel_rfl) (by kernel_rfl) (by kernel_rfl) (ldV_map (f := i64v) (j := p) 0 (by kernel_rfl) (by kernel_rfl) hp)) <|
      .cons (d := some 5) (by kernel_rfl) (does_assign (x := .tmp 21) (v := .int .i64 (xs.getD p 0)) (by kernel_rfl) (by kernel_rfl)) <|
      .nil _ _) ?_
  refine aw_weak (weak_b (T := [(0, .pointer (some ⟨0, 0, none⟩)), (1, .int .i64 n), (4, .int .i64 0), (5, .int .i64 (xs.getD p 0)), (15, .bool false)]) (L := [(0, ⟨[.slice (some ⟨1, p, none⟩) (xs.length - p) 0], 93, true, 1⟩), (1, ⟨(xs.map i64v), 3, false, 1⟩)]) (by kernel_rfl) (by kernel_rfl) (by simp [closedB, valsB, valB, flats_map, List.all_eq_true, i64v, flat1]; try decide)) ?_
  refine aw_plain_seq (r := sub (bodyOf Try.f95) [true, true, true, false]) (y := sub (bodyOf Try.f95) [true, true, true, true]) (id := 4) (ops := regOps (sub (bodyOf Try.f95) [true, true, true, false])) (by kernel_rfl) (by kernel_rfl) (by kernel_rfl) (by kernel_rfl) (
      .cons (d := some 22) (by kernel_rfl) (does_move (x := .tmp 0) (v := .pointer (some ⟨0, 0, none⟩)) (by kernel_rfl) (by kernel_rfl)) <|
      .cons (d := some 23) (by kernel_rfl) (does_move (x := .tmp 0) (v := .pointer (some ⟨0, 0, none⟩)) (by kernel_rfl) (by kernel_rfl)) <|
      .cons (d := some 24) (by kernel_rfl) (does_nilCheck (x := .tmp 23) (A := ⟨0, 0, none⟩) (by kernel_rfl) (by kernel_rfl)) <|
      .cons (d := some 25) (by kernel_rfl) (does_fieldAddr (s := 93) (x := .tmp 24) (f := 0) (k := 0) (off := 0) (d := 0) (by kernel_rfl) (by kernel_rfl) (by kernel_rfl)) <|
      .cons (d := some 26) (by kernel_rfl) (does_load (t := 65) (x := .tmp 25) (k := 0) (off := 0) (b := ⟨[.slice (some ⟨1, p, none⟩) (xs.length - p) 0], 93, true, 1⟩) (v := .slice (some ⟨1, p, none⟩) (xs.length - p) 0) (by kernel_rfl) (by kernel_rfl) (by kernel_rfl) (by kernel_rfl)) <|
      .cons (d := some 27) (by kernel_rfl) (does_val (v' := .slice (some ⟨1, (p + 1), none⟩) ((xs.length - p) - 1) 0) (does_slice (t := 65) (x := .tmp 26) (lo := some (.const (.int .i64 1))) (hi := none) (k := 1) (off := p) (n := (xs.length - p)) (c := 0) (z := 1) (l := 1) (h := (((xs.length - p) : Nat) : Int)) (m := ((xs.length - p) - 1)) (b := ⟨(xs.map i64v), 3, false, 1⟩) (by kernel_rfl) (by kernel_rfl) (by kernel_rfl) (by kernel_rfl) (by kernel_rfl) (by kernel_rfl) (by kernel_rfl) (by kernel_rfl) (by omega) (by omega) (by omega) (by omega)) (by kernel_rfl)) <|
      .cons (d := some 28) (by kernel_rfl) (does_nilCheck (x := .tmp 22) (A := ⟨0, 0, none⟩) (by kernel_rfl) (by kernel_rfl)) <|
      .cons (d := some 29) (by kernel_rfl) (does_fieldAddr (s := 93) (x := .tmp 28) (f := 0) (k := 0) (off := 0) (d := 0) (by kernel_rfl) (by kernel_rfl) (by kernel_rfl)) <|
      .cons (d := none) (by kernel_rfl) (does_store (t := 65) (x := .tmp 29) (y := .tmp 27) (k := 0) (off := 0) (b := ⟨[.slice (some ⟨1, p, none⟩) (xs.length - p) 0], 93, true, 1⟩) (v := .slice (some ⟨1, (p + 1), none⟩) ((xs.length - p) - 1) 0) (cells := [.slice (some ⟨1, (p + 1), none⟩) ((xs.length - p) - 1) 0]) (by kernel_rfl) (by kernel_rfl) (by kernel_rfl) (by kernel_rfl) rfl (by kernel_rfl) (by kernel_rfl) (by kernel_rfl) (by kernel_rfl)) <|
      .nil _ _) ?_
  refine aw_weak (weak_b (T := [(0, .pointer (some ⟨0, 0, none⟩)), (1, .int .i64 n), (4, .int .i64 0), (5, .int .i64 (xs.getD p 0)), (15, .bool false)]) (L := [(0, ⟨[.slice (some ⟨1, (p + 1), none⟩) ((xs.length - p) - 1) 0], 93, true, 1⟩), (1, ⟨(xs.map i64v), 3, false, 1⟩)]) (by kernel_rfl) (by kernel_rfl) (by simp [closedB, valsB, valB, flats_map, List.all_eq_true, i64v, flat1]; try decide)) ?_
  refine aw_plain_seq (r := sub (bodyOf Try.f95) [true, true, true, true, false]) (y := sub (bodyOf Try.f95) [true, true, true, true, true]) (id := 5) (ops := regOps (sub (bodyOf Try.f95) [true, true, true, true, false])) (by kernel_rfl) (by kernel_rfl) (by kernel_rfl) (by kernel_rfl) (
      .cons (d := some 30) (by kernel_rfl) (does_move (x := .tmp 5) (v := .int .i64 (xs.getD p 0)) (by kernel_rfl) (by kernel_rfl)) <|
      .cons (d := some 31) (by kernel_rfl) (does_move (x := .tmp 1) (v := .int .i64 n) (by kernel_rfl) (by kernel_rfl)) <|
      .cons (d := some 32) (by kernel_rfl) (does_call0 (x := .func 62) (ars := #[.tmp 30, .tmp 31]) (ats := #[3, 3]) (g := 62) (vs := [.int .i64 (xs.getD p 0), .int .i64 n]) (v := .int .i64 ((xs.getD p 0) % n)) (by kernel_rfl) (by kernel_rfl) (by kernel_rfl) (by kernel_rfl) (below_ok (xs.getD p 0) n (by omega) (by omega)) (by kernel_rfl) (by kernel_rfl)) <|
      .cons (d := some 4) (by kernel_rfl) (does_assign (x := .tmp 32) (v := .int .i64 ((xs.getD p 0) % n)) (by kernel_rfl) (by kernel_rfl)) <|
      .nil _ _) ?_
  refine aw_weak (weak_b (T := [(0, .pointer (some ⟨0, 0, none⟩)), (1, .int .i64 n), (4, .int .i64 ((xs.getD p 0) % n)), (15, .bool false)]) (L := [(0, ⟨[.slice (some ⟨1, (p + 1), none⟩) ((xs.length - p) - 1) 0], 93, true, 1⟩), (1, ⟨(xs.map i64v), 3, false, 1⟩)]) (by kernel_rfl) (by kernel_rfl) (by simp [closedB, valsB, valB, flats_map, List.all_eq_true, i64v, flat1]; try decide)) ?_
  refine aw_ret (by kernel_rfl) ?_
  exact end_ret (vs := [.int .i64 ((xs.getD p 0) % n)]) (by kernel_rfl) (show (.int .i64 ((xs.getD p 0) % n) : Value) = (.int .i64 (xs.getD p 0 % n)) from (congrArg (Value.int .i64) (show ((xs.getD p 0) % n) = (xs.getD p 0 % n) from by rfl))) ⟨(by kernel_rfl), trivial⟩

theorem next0_ro (xs : List Int) (p : Nat) (n : Int) (hp : ¬ p < xs.length) :
    AC Try.prog 95 2 ([.pointer (some ⟨0, 0, none⟩), .int .i64 n]) [(0, ⟨[.slice (some ⟨1, p, none⟩) (xs.length - p) 0], 93, true, 1⟩), (1, ⟨(xs.map i64v), 3, false, 1⟩)] (.int .i64 0) [(0, ⟨[.slice (some ⟨1, p, none⟩) (xs.length - p) 0], 93, true, 1⟩)] := by
  refine ac_intro (fn := Try.f95) (c := bodyOf Try.f95) Try.func95 (by kernel_rfl) (by kernel_rfl) (by kernel_rfl) ?_
  intro w0 W pin
  refine aw_sub ?_
  refine aw_plain_seq (r := sub (bodyOf Try.f95) [false]) (y := sub (bodyOf Try.f95) [true]) (id := 0) (ops := regOps (sub (bodyOf Try.f95) [false])) (by kernel_rfl) (by kernel_rfl) (by kernel_rfl) (by kernel_rfl) (
      .cons (d := some 4) (by kernel_rfl) (does_assign (x := .const (.int .i64 0)) (v := .int .i64 0) (by kernel_rfl) (by kernel_rfl)) <|
      .nil _ _) ?_
  refine aw_weak (weak_b (T := [(0, .pointer (some ⟨0, 0, none⟩)), (1, .int .i64 n), (4, .int .i64 0)]) (L := [(0, ⟨[.slice (some ⟨1, p, none⟩) (xs.length - p) 0], 93, true, 1⟩), (1, ⟨(xs.map i64v), 3, false, 1⟩)]) (by kernel_rfl) (by kernel_rfl) (by simp [closedB, valsB, valB, flats_map, List.all_eq_true, i64v, flat1]; try decide)) ?_
  refine aw_seq (x := sub (bodyOf Try.f95) [true, false]) (y := sub (bodyOf Try.f95) [true, true]) (by kernel_rfl) ?_
  refine aw_plain_seq (r := sub (bodyOf Try.f95) [true, false, false]) (y := sub (bodyOf Try.f95) [true, false, true]) (id := 1) (ops := regOps (sub (bodyOf Try.f95) [true, false, false])) (by kernel_rfl) (by kernel_rfl) (by kernel_rfl) (by kernel_rfl) (
      .cons (d := some 6) (by kernel_rfl) (does_move (x := .tmp 0) (v := .pointer (some ⟨0, 0, none⟩)) (by kernel_rfl) (by kernel_rfl)) <|
      .cons (d := some 7) (by kernel_rfl) (does_nilCheck (x := .tmp 6) (A := ⟨0, 0, none⟩) (by kernel_rfl) (by kernel_rfl)) <|
      .cons (d := some 8) (by kernel_rfl) (does_fieldAddr (s := 93) (x := .tmp 7) (f := 0) (k := 0) (off := 0) (d := 0) (by kernel_rfl) (by kernel_rfl) (by kernel_rfl)) <|
      .cons (d := some 9) (by kernel_rfl) (does_load (t := 65) (x := .tmp 8) (k := 0) (off := 0) (b := ⟨[.slice (some ⟨1, p, none⟩) (xs.length - p) 0], 93, true, 1⟩) (v := .slice (some ⟨1, p, none⟩) (xs.length - p) 0) (by kernel_rfl) (by kernel_rfl) (by kernel_rfl) (by kernel_rfl)) <|
      .cons (d := some 10) (by kernel_rfl) (does_len (x := .tmp 9) (t := 65) (k := 1) (off := p) (n := (xs.length - p)) (c := 0) (by kernel_rfl) (by kernel_rfl) (by kernel_rfl)) <|
      .cons (d := some 11) (by kernel_rfl) (does_bool (b' := true) (does_pure (v := .bool ((((xs.length - p) : Nat) : Int) == 0)) (by kernel_rfl) (fun w => by kernel_rfl) (by kernel_rfl)) (by rw [beq_iff_eq]; omega)) <|
      .cons (d := some 12) (by kernel_rfl) (does_move (x := .tmp 11) (v := .bool true) (by kernel_rfl) (by kernel_rfl)) <|
      .cons (d := some 13) (by kernel_rfl) (does_skipB (by kernel_rfl)) <|
      .cons (d := some 14) (by kernel_rfl) (does_skipB (by kernel_rfl)) <|
      .cons (d := some 15) (by kernel_rfl) (does_pick (c := .tmp 12) (x := .const (.bool true)) (y := .tmp 14) (b := true) (v := .bool true) (by kernel_rfl) (by kernel_rfl) (by kernel_rfl)) <|
      .nil _ _) ?_
  refine aw_weak (weak_b (T := [(0, .pointer (some ⟨0, 0, none⟩)), (1, .int .i64 n), (4, .int .i64 0), (15, .bool true)]) (L := [(0, ⟨[.slice (some ⟨1, p, none⟩) (xs.length - p) 0], 93, true, 1⟩), (1, ⟨(xs.map i64v), 3, false, 1⟩)]) (by kernel_rfl) (by kernel_rfl) (by simp [closedB, valsB, valB, flats_map, List.all_eq_true, i64v, flat1]; try decide)) ?_
  refine aw_true (o := .tmp 15) (x := sub (bodyOf Try.f95) [true, false, true, false]) (y := sub (bodyOf Try.f95) [true, false, true, true]) (by kernel_rfl) (by kernel_rfl) ?_
  refine aw_plain_seq (r := sub (bodyOf Try.f95) [true, false, true, false, false]) (y := sub (bodyOf Try.f95) [true, false, true, false, true]) (id := 2) (ops := regOps (sub (bodyOf Try.f95) [true, false, true, false, false])) (by kernel_rfl) (by kernel_rfl) (by kernel_rfl) (by kernel_rfl) (
      .cons (d := some 4) (by kernel_rfl) (does_assign (x := .const (.int .i64 0)) (v := .int .i64 0) (by kernel_rfl) (by kernel_rfl)) <|
      .nil _ _) ?_
  refine aw_weak (weak_b (T := [(0, .pointer (some ⟨0, 0, none⟩)), (1, .int .i64 n), (4, .int .i64 0), (15, .bool true)]) (L := [(0, ⟨[.slice (some ⟨1, p, none⟩) (xs.length - p) 0], 93, true, 1⟩), (1, ⟨(xs.map i64v), 3, false, 1⟩)]) (by kernel_rfl) (by kernel_rfl) (by simp [closedB, valsB, valB, flats_map, List.all_eq_true, i64v, flat1]; try decide)) ?_
  refine aw_ret (by kernel_rfl) ?_
  refine then_ret ?_
  exact end_ret (vs := [.int .i64 0]) (by kernel_rfl) (by kernel_rfl) ⟨(by kernel_rfl), trivial⟩

theorem spoint_ok (x y : Int) :
    AC Try.prog 94 2 ([.pointer (some ⟨0, 0, none⟩)]) [(0, ⟨[.slice (some ⟨1, 0, none⟩) 2 0], 93, true, 1⟩), (1, ⟨[.int .i64 x, .int .i64 y], 3, true, 1⟩)] (.agg #[.int .i64 (x % 81 - 40), .int .i64 (y % 81 - 40)]) [(0, ⟨[.slice (some ⟨1, 2, none⟩) 0 0], 93, true, 1⟩), (1, ⟨[.int .i64 x, .int .i64 y], 3, true, 1⟩)] := by
  have q1 := Sp.emod_bd x (n := 81) (by decide); have q2 := Sp.emod_bd y (n := 81) (by decide)
  refine ac_intro (fn := Try.f94) (c := bodyOf Try.f94) Try.func94 (by kernel_rfl) (by kernel_rfl) (by kernel_rfl) ?_
  intro w0 W pin
  refine aw_sub ?_
  refine aw_plain_seq (r := sub (bodyOf Try.f94) [false]) (y := sub (bodyOf Try.f94) [true]) (id := 0) (ops := regOps (sub (bodyOf Try.f94) [false])) (by kernel_rfl) (by kernel_rfl) (by kernel_rfl) (by kernel_rfl) (
      .cons (d := some 2) (by kernel_rfl) (does_alloc (t := 24) (k := 2) (v := .agg #[.int .i64 0, .int .i64 0]) (cells := [.int .i64 0, .int .i64 0]) (by kernel_rfl) (by kernel_rfl) (by kernel_rfl) (by kernel_rfl) (by kernel_rfl)) <|
      .nil _ _) ?_
  refine aw_weak (weak_b (T := [(0, .pointer (some ⟨0, 0, none⟩)), (2, .pointer (some ⟨2, 0, none⟩))]) (L := [(0, ⟨[.slice (some ⟨1, 0, none⟩) 2 0], 93, true, 1⟩), (1, ⟨[.int .i64 x, .int .i64 y], 3, true, 1⟩), (2, ⟨[.int .i64 0, .int .i64 0], 24, true, 2⟩)]) (by kernel_rfl) (by kernel_rfl) (by kernel_rfl)) ?_
  refine aw_plain_seq (r := sub (bodyOf Try.f94) [true, false]) (y := sub (bodyOf Try.f94) [true, true]) (id := 1) (ops := regOps (sub (bodyOf Try.f94) [true, false])) (by kernel_rfl) (by kernel_rfl) (by kernel_rfl) (by kernel_rfl) (
      .cons (d := some 3) (by kernel_rfl) (does_move (x := .tmp 0) (v := .pointer (some ⟨0, 0, none⟩)) (by kernel_rfl) (by kernel_rfl)) <|
      .cons (d := some 4) (by kernel_rfl) (does_callB (x := .func 95) (ars := #[.tmp 3, .const (.int .i64 81)]) (ats := #[91, 3]) (g := 95) (vs := [.pointer (some ⟨0, 0, none⟩), .int .i64 81]) (m := 2) (r := 0) (firsts := #[]) (caps := #[]) (args0 := [.pointer (some ⟨0, 0, none⟩), .int .i64 81]) (pre0 := [(0, ⟨[.slice (some ⟨1, 0, none⟩) (([x, y]).length - 0) 0], 93, true, 1⟩), (1, ⟨(([x, y]).map i64v), 3, true, 1⟩)]) (post0 := [(0, ⟨[.slice (some ⟨1, (0 + 1), none⟩) (([x, y]).length - 0 - 1) 0], 93, true, 1⟩), (1, ⟨(([x, y]).map i64v), 3, true, 1⟩)]) (pre := [(0, ⟨[.slice (some ⟨1, 0, none⟩) 2 0], 93, true, 1⟩), (1, ⟨[.int .i64 x, .int .i64 y], 3, true, 1⟩)]) (post := [(0, ⟨[.slice (some ⟨1, 1, none⟩) 1 0], 93, true, 1⟩), (1, ⟨[.int .i64 x, .int .i64 y], 3, true, 1⟩)]) (v0 := .int .i64 (([x, y]).getD 0 0 % 81)) (v := .int .i64 (x % 81)) [0, 1] (by kernel_rfl) (by kernel_rfl) (by kernel_rfl) (by kernel_rfl) (next_own ([x, y]) 0 81 (by simp) (by decide) (by decide)) (.cons (.ptr _ _ (by decide)) (.cons (.flatB (by kernel_rfl)) .nil)) ⟨rfl, ⟨rfl, rfl, rfl, (.cons (.slice _ _ _ _ _ (by decide)) .nil)⟩, rfl, ⟨rfl, rfl, rfl, (.flats (by kernel_rfl))⟩, trivial⟩ (by kernel_rfl) (by kernel_rfl) (by kernel_rfl) ⟨rfl, ⟨rfl, rfl, rfl, (.cons (.slice _ _ _ _ _ (by decide)) .nil)⟩, rfl, ⟨rfl, rfl, rfl, (.flats (by kernel_rfl))⟩, trivial⟩ (.flatB (by kernel_rfl))) <|
      .cons (d := some 5) (by kernel_rfl) (does_int (n' := (x % 81) - 40) (does_pure (v := .int .i64 (IntKind.wrap .i64 ((x % 81) - 40))) (by kernel_rfl) (fun w => by kernel_rfl) (by kernel_rfl)) (wrap_i64 (by omega) (by omega))) <|
      .cons (d := some 6) (by kernel_rfl) (does_move (x := .tmp 0) (v := .pointer (some ⟨0, 0, none⟩)) (by kernel_rfl) (by kernel_rfl)) <|
      .cons (d := some 7) (by kernel_rfl) (does_callB (x := .func 95) (ars := #[.tmp 6, .const (.int .i64 81)]) (ats := #[91, 3]) (g := 95) (vs := [.pointer (some ⟨0, 0, none⟩), .int .i64 81]) (m := 2) (r := 0) (firsts := #[]) (caps := #[]) (args0 := [.pointer (some ⟨0, 0, none⟩), .int .i64 81]) (pre0 := [(0, ⟨[.slice (some ⟨1, 1, none⟩) (([x, y]).length - 1) 0], 93, true, 1⟩), (1, ⟨(([x, y]).map i64v), 3, true, 1⟩)]) (post0 := [(0, ⟨[.slice (some ⟨1, (1 + 1), none⟩) (([x, y]).length - 1 - 1) 0], 93, true, 1⟩), (1, ⟨(([x, y]).map i64v), 3, true, 1⟩)]) (pre := [(0, ⟨[.slice (some ⟨1, 1, none⟩) 1 0], 93, true, 1⟩), (1, ⟨[.int .i64 x, .int .i64 y], 3, true, 1⟩)]) (post := [(0, ⟨[.slice (some ⟨1, 2, none⟩) 0 0], 93, true, 1⟩), (1, ⟨[.int .i64 x, .int .i64 y], 3, true, 1⟩)]) (v0 := .int .i64 (([x, y]).getD 1 0 % 81)) (v := .int .i64 (y % 81)) [0, 1] (by kernel_rfl) (by kernel_rfl) (by kernel_rfl) (by kernel_rfl) (next_own ([x, y]) 1 81 (by simp) (by decide) (by decide)) (.cons (.ptr _ _ (by decide)) (.cons (.flatB (by kernel_rfl)) .nil)) ⟨rfl, ⟨rfl, rfl, rfl, (.cons (.slice _ _ _ _ _ (by decide)) .nil)⟩, rfl, ⟨rfl, rfl, rfl, (.flats (by kernel_rfl))⟩, trivial⟩ (by kernel_rfl) (by kernel_rfl) (by kernel_rfl) ⟨rfl, ⟨rfl, rfl, rfl, (.cons (.slice _ _ _ _ _ (by decide)) .nil)⟩, rfl, ⟨rfl, rfl, rfl, (.flats (by kernel_rfl))⟩, trivial⟩ (.flatB (by kernel_rfl))) <|
      .cons (d := some 8) (by kernel_rfl) (does_int (n' := (y % 81) - 40) (does_pure (v := .int .i64 (IntKind.wrap .i64 ((y % 81) - 40))) (by kernel_rfl) (fun w => by kernel_rfl) (by kernel_rfl)) (wrap_i64 (by omega) (by omega))) <|
      .cons (d := some 9) (by kernel_rfl) (does_pure (v := .agg #[.int .i64 ((x % 81) - 40), .int .i64 ((y % 81) - 40)]) (by kernel_rfl) (fun w => by kernel_rfl) (by kernel_rfl)) <|
      .cons (d := none) (by kernel_rfl) (does_store (t := 24) (x := .tmp 2) (y := .tmp 9) (k := 2) (off := 0) (b := ⟨[.int .i64 0, .int .i64 0], 24, true, 2⟩) (v := .agg #[.int .i64 ((x % 81) - 40), .int .i64 ((y % 81) - 40)]) (cells := [.int .i64 ((x % 81) - 40), .int .i64 ((y % 81) - 40)]) (by kernel_rfl) (by kernel_rfl) (by kernel_rfl) (by kernel_rfl) rfl (by kernel_rfl) (by kernel_rfl) (by kernel_rfl) (by kernel_rfl)) <|
      .nil _ _) ?_
  refine aw_weak (weak_b (T := [(2, .pointer (some ⟨2, 0, none⟩))]) (L := [(0, ⟨[.slice (some ⟨1, 2, none⟩) 0 0], 93, true, 1⟩), (1, ⟨[.int .i64 x, .int .i64 y], 3, true, 1⟩), (2, ⟨[.int .i64 ((x % 81) - 40), .int .i64 ((y % 81) - 40)], 24, true, 2⟩)]) (by kernel_rfl) (by kernel_rfl) (by kernel_rfl)) ?_
  refine aw_ret (by kernel_rfl) ?_
  exact end_ret (vs := [.agg #[.int .i64 ((x % 81) - 40), .int .i64 ((y % 81) - 40)]]) (by kernel_rfl) (show (.agg #[.int .i64 ((x % 81) - 40), .int .i64 ((y % 81) - 40)] : Value) = (.agg #[.int .i64 (x % 81 - 40), .int .i64 (y % 81 - 40)]) from (congrArg (fun z : List Value => Value.agg z.toArray) (lcons (congrArg (Value.int .i64) (show ((x % 81) - 40) = (x % 81 - 40) from by rfl)) (lcons (congrArg (Value.int .i64) (show ((y % 81) - 40) = (y % 81 - 40) from by rfl)) rfl)))) ⟨(by kernel_rfl), (by kernel_rfl), trivial⟩

theorem mpoint_ok (x y : Int) :
    AC Try.prog 82 1 ([.slice (some ⟨0, 0, none⟩) 2 0]) [(0, ⟨[.int .i64 x, .int .i64 y], 3, true, 1⟩)] (.agg #[.int .i64 (x % 81 - 40), .int .i64 (y % 81 - 40)]) [(0, ⟨[.int .i64 x, .int .i64 y], 3, true, 1⟩)] := by
  refine ac_intro (fn := Try.f82) (c := bodyOf Try.f82) Try.func82 (by kernel_rfl) (by kernel_rfl) (by kernel_rfl) ?_
  intro w0 W pin
  refine aw_sub ?_
  refine aw_plain_seq (r := sub (bodyOf Try.f82) [false]) (y := sub (bodyOf Try.f82) [true]) (id := 0) (ops := regOps (sub (bodyOf Try.f82) [false])) (by kernel_rfl) (by kernel_rfl) (by kernel_rfl) (by kernel_rfl) (
      .cons (d := some 2) (by kernel_rfl) (does_alloc (t := 24) (k := 1) (v := .agg #[.int .i64 0, .int .i64 0]) (cells := [.int .i64 0, .int .i64 0]) (by kernel_rfl) (by kernel_rfl) (by kernel_rfl) (by kernel_rfl) (by kernel_rfl)) <|
      .nil _ _) ?_
  refine aw_weak (weak_b (T := [(0, .slice (some ⟨0, 0, none⟩) 2 0), (2, .pointer (some ⟨1, 0, none⟩))]) (L := [(0, ⟨[.int .i64 x, .int .i64 y], 3, true, 1⟩), (1, ⟨[.int .i64 0, .int .i64 0], 24, true, 2⟩)]) (by kernel_rfl) (by kernel_rfl) (by kernel_rfl)) ?_
  refine aw_plain_seq (r := sub (bodyOf Try.f82) [true, false]) (y := sub (bodyOf Try.f82) [true, true]) (id := 1) (ops := regOps (sub (bodyOf Try.f82) [true, false])) (by kernel_rfl) (by kernel_rfl) (by kernel_rfl) (by kernel_rfl) (
      .cons (d := some 3) (by kernel_rfl) (does_move (x := .tmp 0) (v := .slice (some ⟨0, 0, none⟩) 2 0) (by kernel_rfl) (by kernel_rfl)) <|
      .cons (d := some 4) (by kernel_rfl) (does_build (t := 93) (parts := #[(0, .tmp 3)]) (ps := [(0, .slice (some ⟨0, 0, none⟩) 2 0)]) (z := .agg #[.slice none 0 0]) (cells := [.slice (some ⟨0, 0, none⟩) 2 0]) (by kernel_rfl) (by kernel_rfl) (by kernel_rfl) (by kernel_rfl) (by kernel_rfl) (by kernel_rfl)) <|
      .cons (d := some 5) (by kernel_rfl) (does_box (t := 93) (x := .tmp 4) (k := 2) (v := .agg #[.slice (some ⟨0, 0, none⟩) 2 0]) (cells := [.slice (some ⟨0, 0, none⟩) 2 0]) (by kernel_rfl) (by kernel_rfl) (by kernel_rfl) (by kernel_rfl)) <|
      .cons (d := some 6) (by kernel_rfl) (does_callB (x := .func 94) (ars := #[.tmp 5]) (ats := #[91]) (g := 94) (vs := [.pointer (some ⟨2, 0, none⟩)]) (m := 2) (r := 0) (firsts := #[]) (caps := #[]) (args0 := [.pointer (some ⟨0, 0, none⟩)]) (pre0 := [(0, ⟨[.slice (some ⟨1, 0, none⟩) 2 0], 93, true, 1⟩), (1, ⟨[.int .i64 x, .int .i64 y], 3, true, 1⟩)]) (post0 := [(0, ⟨[.slice (some ⟨1, 2, none⟩) 0 0], 93, true, 1⟩), (1, ⟨[.int .i64 x, .int .i64 y], 3, true, 1⟩)]) (pre := [(2, ⟨[.slice (some ⟨0, 0, none⟩) 2 0], 93, true, 1⟩), (0, ⟨[.int .i64 x, .int .i64 y], 3, true, 1⟩)]) (post := [(2, ⟨[.slice (some ⟨0, 2, none⟩) 0 0], 93, true, 1⟩), (0, ⟨[.int .i64 x, .int .i64 y], 3, true, 1⟩)]) (v0 := .agg #[.int .i64 (x % 81 - 40), .int .i64 (y % 81 - 40)]) (v := .agg #[.int .i64 (x % 81 - 40), .int .i64 (y % 81 - 40)]) [2, 0] (by kernel_rfl) (by kernel_rfl) (by kernel_rfl) (by kernel_rfl) (spoint_ok x y) (.cons (.ptr _ _ (by decide)) .nil) ⟨rfl, ⟨rfl, rfl, rfl, (.cons (.slice _ _ _ _ _ (by decide)) .nil)⟩, rfl, ⟨rfl, rfl, rfl, (.flats (by kernel_rfl))⟩, trivial⟩ (by kernel_rfl) (by kernel_rfl) (by kernel_rfl) ⟨rfl, ⟨rfl, rfl, rfl, (.cons (.slice _ _ _ _ _ (by decide)) .nil)⟩, rfl, ⟨rfl, rfl, rfl, (.flats (by kernel_rfl))⟩, trivial⟩ (.flatB (by kernel_rfl))) <|
      .cons (d := none) (by kernel_rfl) (does_store (t := 24) (x := .tmp 2) (y := .tmp 6) (k := 1) (off := 0) (b := ⟨[.int .i64 0, .int .i64 0], 24, true, 2⟩) (v := .agg #[.int .i64 (x % 81 - 40), .int .i64 (y % 81 - 40)]) (cells := [.int .i64 (x % 81 - 40), .int .i64 (y % 81 - 40)]) (by kernel_rfl) (by kernel_rfl) (by kernel_rfl) (by kernel_rfl) rfl (by kernel_rfl) (by kernel_rfl) (by kernel_rfl) (by kernel_rfl)) <|
      .nil _ _) ?_
  refine aw_weak (weak_b (T := [(2, .pointer (some ⟨1, 0, none⟩))]) (L := [(0, ⟨[.int .i64 x, .int .i64 y], 3, true, 1⟩), (1, ⟨[.int .i64 (x % 81 - 40), .int .i64 (y % 81 - 40)], 24, true, 2⟩)]) (by kernel_rfl) (by kernel_rfl) (by kernel_rfl)) ?_
  refine aw_ret (by kernel_rfl) ?_
  exact end_ret (vs := [.agg #[.int .i64 (x % 81 - 40), .int .i64 (y % 81 - 40)]]) (by kernel_rfl) (by kernel_rfl) ⟨(by kernel_rfl), trivial⟩

theorem small_ok (x : Int) (hx : Sp.In64 x) :
    AC Try.prog 46 0 ([.int .i64 x]) [] (.agg #[.int .i64 (x % 81 - 40), .int .i64 (Int.tdiv x 81 % 81 - 40)]) [] := by
  refine ac_intro (fn := Try.f46) (c := bodyOf Try.f46) Try.func46 (by kernel_rfl) (by kernel_rfl) (by kernel_rfl) ?_
  intro w0 W pin
  refine aw_sub ?_
  refine aw_plain_seq (r := sub (bodyOf Try.f46) [false]) (y := sub (bodyOf Try.f46) [true]) (id := 0) (ops := regOps (sub (bodyOf Try.f46) [false])) (by kernel_rfl) (by kernel_rfl) (by kernel_rfl) (by kernel_rfl) (
      .cons (d := some 2) (by kernel_rfl) (does_alloc (t := 24) (k := 1) (v := .agg #[.int .i64 0, .int .i64 0]) (cells := [.int .i64 0, .int .i64 0]) (by kernel_rfl) (by kernel_rfl) (by kernel_rfl) (by kernel_rfl) (by kernel_rfl)) <|
      .nil _ _) ?_
  refine aw_weak (weak_b (T := [(0, .int .i64 x), (2, .pointer (some ⟨1, 0, none⟩))]) (L := [(1, ⟨[.int .i64 0, .int .i64 0], 24, true, 2⟩)]) (by kernel_rfl) (by kernel_rfl) (by kernel_rfl)) ?_
  refine aw_plain_seq (r := sub (bodyOf Try.f46) [true, false]) (y := sub (bodyOf Try.f46) [true, true]) (id := 1) (ops := regOps (sub (bodyOf Try.f46) [true, false])) (by kernel_rfl) (by kernel_rfl) (by kernel_rfl) (by kernel_rfl) (
      .cons (d := some 3) (by kernel_rfl) (does_move (x := .tmp 0) (v := .int .i64 x) (by kernel_rfl) (by kernel_rfl)) <|
      .cons (d := some 4) (by kernel_rfl) (does_move (x := .tmp 0) (v := .int .i64 x) (by kernel_rfl) (by kernel_rfl)) <|
      .cons (d := some 5) (by kernel_rfl) (does_int (n' := Int.tdiv x 81) (does_pure (v := .int .i64 (IntKind.wrap .i64 (Int.tdiv x 81))) (by kernel_rfl) (fun w => by kernel_rfl) (by kernel_rfl)) (wrap_i64 (Sp.tdiv_in hx (by decide)).1 (Sp.tdiv_in hx (by decide)).2)) <|
      .cons (d := some 6) (by kernel_rfl) (does_buildSlice (t := 65) (e := 3) (n := 2) (k := 2) (z := 1) (parts := #[(0, .tmp 3), (1, .tmp 5)]) (ps := [(0, .int .i64 x), (1, .int .i64 (Int.tdiv x 81))]) (zs := [.int .i64 0, .int .i64 0]) (cells := [.int .i64 x, .int .i64 (Int.tdiv x 81)]) (by kernel_rfl) (by kernel_rfl) (by kernel_rfl) (by kernel_rfl) (by kernel_rfl) (by kernel_rfl) (by kernel_rfl) (by kernel_rfl) (by kernel_rfl) (by kernel_rfl)) <|
      .cons (d := some 7) (by kernel_rfl) (does_callB (x := .func 82) (ars := #[.tmp 6]) (ats := #[65]) (g := 82) (vs := [.slice (some ⟨2, 0, none⟩) 2 0]) (m := 1) (r := 0) (firsts := #[]) (caps := #[]) (args0 := [.slice (some ⟨0, 0, none⟩) 2 0]) (pre0 := [(0, ⟨[.int .i64 x, .int .i64 (Int.tdiv x 81)], 3, true, 1⟩)]) (post0 := [(0, ⟨[.int .i64 x, .int .i64 (Int.tdiv x 81)], 3, true, 1⟩)]) (pre := [(2, ⟨[.int .i64 x, .int .i64 (Int.tdiv x 81)], 3, true, 1⟩)]) (post := [(2, ⟨[.int .i64 x, .int .i64 (Int.tdiv x 81)], 3, true, 1⟩)]) (v0 := .agg #[.int .i64 (x % 81 - 40), .int .i64 ((Int.tdiv x 81) % 81 - 40)]) (v := .agg #[.int .i64 (x % 81 - 40), .int .i64 ((Int.tdiv x 81) % 81 - 40)]) [2] (by kernel_rfl) (by kernel_rfl) (by kernel_rfl) (by kernel_rfl) (mpoint_ok x (Int.tdiv x 81)) (.cons (.slice _ _ _ _ _ (by decide)) .nil) ⟨rfl, ⟨rfl, rfl, rfl, (.flats (by kernel_rfl))⟩, trivial⟩ (by kernel_rfl) (by kernel_rfl) (by kernel_rfl) ⟨rfl, ⟨rfl, rfl, rfl, (.flats (by kernel_rfl))⟩, trivial⟩ (.flatB (by kernel_rfl))) <|
      .cons (d := none) (by kernel_rfl) (does_store (t := 24) (x := .tmp 2) (y := .tmp 7) (k := 1) (off := 0) (b := ⟨[.int .i64 0, .int .i64 0], 24, true, 2⟩) (v := .agg #[.int .i64 (x % 81 - 40), .int .i64 ((Int.tdiv x 81) % 81 - 40)]) (cells := [.int .i64 (x % 81 - 40), .int .i64 ((Int.tdiv x 81) % 81 - 40)]) (by kernel_rfl) (by kernel_rfl) (by kernel_rfl) (by kernel_rfl) rfl (by kernel_rfl) (by kernel_rfl) (by kernel_rfl) (by kernel_rfl)) <|
      .nil _ _) ?_
  refine aw_weak (weak_b (T := [(2, .pointer (some ⟨1, 0, none⟩))]) (L := [(1, ⟨[.int .i64 (x % 81 - 40), .int .i64 ((Int.tdiv x 81) % 81 - 40)], 24, true, 2⟩)]) (by kernel_rfl) (by kernel_rfl) (by kernel_rfl)) ?_
  refine aw_ret (by kernel_rfl) ?_
  exact end_ret (vs := [.agg #[.int .i64 (x % 81 - 40), .int .i64 ((Int.tdiv x 81) % 81 - 40)]]) (by kernel_rfl) (show (.agg #[.int .i64 (x % 81 - 40), .int .i64 ((Int.tdiv x 81) % 81 - 40)] : Value) = (.agg #[.int .i64 (x % 81 - 40), .int .i64 (Int.tdiv x 81 % 81 - 40)]) from (congrArg (fun z : List Value => Value.agg z.toArray) (lcons rfl (lcons (congrArg (Value.int .i64) (show ((Int.tdiv x 81) % 81 - 40) = (Int.tdiv x 81 % 81 - 40) from by rfl)) rfl)))) trivial

theorem terrlaw1_pointBegun_ok  :
    AC Try.prog 29 0 ([]) [] (.bool true) [] := by
  refine ac_intro (fn := Try.f29) (c := bodyOf Try.f29) Try.func29 (by kernel_rfl) (by kernel_rfl) (by kernel_rfl) ?_
  intro w0 W pin
  refine aw_sub ?_
  refine aw_plain_seq (r := sub (bodyOf Try.f29) [false]) (y := sub (bodyOf Try.f29) [true]) (id := 0) (ops := regOps (sub (bodyOf Try.f29) [false])) (by kernel_rfl) (by kernel_rfl) (by kernel_rfl) (by kernel_rfl) (
      .cons (d := some 0) (by kernel_rfl) (does_assign (x := .const (.bool false)) (v := .bool false) (by kernel_rfl) (by kernel_rfl)) <|
      .nil _ _) ?_
  refine aw_weak (weak_b (T := [(0, .bool false)]) (L := []) (by kernel_rfl) (by kernel_rfl) (by kernel_rfl)) ?_
  refine aw_plain_seq (r := sub (bodyOf Try.f29) [true, false]) (y := sub (bodyOf Try.f29) [true, true]) (id := 1) (ops := regOps (sub (bodyOf Try.f29) [true, false])) (by kernel_rfl) (by kernel_rfl) (by kernel_rfl) (by kernel_rfl) (
      .cons (d := some 1) (by kernel_rfl) (does_call0 (x := .func 17) (ars := #[.const (.int .i64 0), .const (.int .i64 0)]) (ats := #[3, 3]) (g := 17) (vs := [.int .i64 0, .int .i64 0]) (v := .agg #[.int .i64 0, .int .i64 0]) (by kernel_rfl) (by kernel_rfl) (by kernel_rfl) (by kernel_rfl) (terrlaw1_at_ok 0 0) (by kernel_rfl) (by kernel_rfl)) <|
      .cons (d := some 2) (by kernel_rfl) (does_call0 (x := .func 17) (ars := #[.const (.int .i64 2), .const (.int .i64 0)]) (ats := #[3, 3]) (g := 17) (vs := [.int .i64 2, .int .i64 0]) (v := .agg #[.int .i64 2, .int .i64 0]) (by kernel_rfl) (by kernel_rfl) (by kernel_rfl) (by kernel_rfl) (terrlaw1_at_ok 2 0) (by kernel_rfl) (by kernel_rfl)) <|
      .cons (d := some 3) (by kernel_rfl) (does_call0 (x := .func 17) (ars := #[.const (.int .i64 1), .const (.int .i64 1)]) (ats := #[3, 3]) (g := 17) (vs := [.int .i64 1, .int .i64 1]) (v := .agg #[.int .i64 1, .int .i64 1]) (by kernel_rfl) (by kernel_rfl) (by kernel_rfl) (by kernel_rfl) (terrlaw1_at_ok 1 1) (by kernel_rfl) (by kernel_rfl)) <|
      .cons (d := some 4) (by kernel_rfl) (does_call0 (x := .func 39) (ars := #[.tmp 1, .tmp 2, .tmp 3]) (ats := #[24, 24, 24]) (g := 39) (vs := [.agg #[.int .i64 0, .int .i64 0], .agg #[.int .i64 2, .int .i64 0], .agg #[.int .i64 1, .int .i64 1]]) (v := .int .i64 (Sp.cmp (Sp.crs (Sp.lim 1048576 0) (Sp.lim 1048576 0) (Sp.lim 1048576 2) (Sp.lim 1048576 0) (Sp.lim 1048576 1) (Sp.lim 1048576 1)) 0)) (by kernel_rfl) (by kernel_rfl) (by kernel_rfl) (by kernel_rfl) (turn_ok 0 0 2 0 1 1) (by kernel_rfl) (by kernel_rfl)) <|
      .cons (d := some 5) (by kernel_rfl) (does_bool (b' := true) (does_pure (v := .bool ((Sp.cmp (Sp.crs (Sp.lim 1048576 0) (Sp.lim 1048576 0) (Sp.lim 1048576 2) (Sp.lim 1048576 0) (Sp.lim 1048576 1) (Sp.lim 1048576 1)) 0) == 1)) (by kernel_rfl) (fun w => by kernel_rfl) (by kernel_rfl)) (by decide)) <|
      .cons (d := some 6) (by kernel_rfl) (does_move (x := .tmp 5) (v := .bool true) (by kernel_rfl) (by kernel_rfl)) <|
      .cons (d := some 7) (by kernel_rfl) (does_call0 (x := .func 17) (ars := #[.const (.int .i64 0), .const (.int .i64 0)]) (ats := #[3, 3]) (g := 17) (vs := [.int .i64 0, .int .i64 0]) (v := .agg #[.int .i64 0, .int .i64 0]) (by kernel_rfl) (by kernel_rfl) (by kernel_rfl) (by kernel_rfl) (terrlaw1_at_ok 0 0) (by kernel_rfl) (by kernel_rfl)) <|
      .cons (d := some 8) (by kernel_rfl) (does_call0 (x := .func 17) (ars := #[.const (.int .i64 3), .const (.int .i64 4)]) (ats := #[3, 3]) (g := 17) (vs := [.int .i64 3, .int .i64 4]) (v := .agg #[.int .i64 3, .int .i64 4]) (by kernel_rfl) (by kernel_rfl) (by kernel_rfl) (by kernel_rfl) (terrlaw1_at_ok 3 4) (by kernel_rfl) (by kernel_rfl)) <|
      .cons (d := some 9) (by kernel_rfl) (does_call0 (x := .func 41) (ars := #[.tmp 7, .tmp 8]) (ats := #[24, 24]) (g := 41) (vs := [.agg #[.int .i64 0, .int .i64 0], .agg #[.int .i64 3, .int .i64 4]]) (v := .int .i64 (Sp.dot (Sp.lim 1048576 0) (Sp.lim 1048576 0) (Sp.lim 1048576 3) (Sp.lim 1048576 4) (Sp.lim 1048576 3) (Sp.lim 1048576 4))) (by kernel_rfl) (by kernel_rfl) (by kernel_rfl) (by kernel_rfl) (sq_ok 0 0 3 4) (by kernel_rfl) (by kernel_rfl)) <|
      .cons (d := some 10) (by kernel_rfl) (does_bool (b' := true) (does_pure (v := .bool ((Sp.dot (Sp.lim 1048576 0) (Sp.lim 1048576 0) (Sp.lim 1048576 3) (Sp.lim 1048576 4) (Sp.lim 1048576 3) (Sp.lim 1048576 4)) == 25)) (by kernel_rfl) (fun w => by kernel_rfl) (by kernel_rfl)) (by decide)) <|
      .cons (d := some 11) (by kernel_rfl) (does_pick (c := .tmp 6) (x := .tmp 10) (y := .const (.bool false)) (b := true) (v := .bool true) (by kernel_rfl) (by kernel_rfl) (by kernel_rfl)) <|
      .cons (d := some 0) (by kernel_rfl) (does_assign (x := .tmp 11) (v := .bool true) (by kernel_rfl) (by kernel_rfl)) <|
      .nil _ _) ?_
  refine aw_weak (weak_b (T := [(0, .bool true)]) (L := []) (by kernel_rfl) (by kernel_rfl) (by kernel_rfl)) ?_
  refine aw_ret (by kernel_rfl) ?_
  exact end_ret (vs := [.bool true]) (by kernel_rfl) (by kernel_rfl) trivial

theorem terrkeep1_pointBegun_ok  :
    AC Try.prog 45 0 ([]) [] (.bool true) [] := by
  refine ac_intro (fn := Try.f45) (c := bodyOf Try.f45) Try.func45 (by kernel_rfl) (by kernel_rfl) (by kernel_rfl) ?_
  intro w0 W pin
  refine aw_sub ?_
  refine aw_plain_seq (r := sub (bodyOf Try.f45) [false]) (y := sub (bodyOf Try.f45) [true]) (id := 0) (ops := regOps (sub (bodyOf Try.f45) [false])) (by kernel_rfl) (by kernel_rfl) (by kernel_rfl) (by kernel_rfl) (
      .cons (d := some 0) (by kernel_rfl) (does_assign (x := .const (.bool false)) (v := .bool false) (by kernel_rfl) (by kernel_rfl)) <|
      .nil _ _) ?_
  refine aw_weak (weak_b (T := [(0, .bool false)]) (L := []) (by kernel_rfl) (by kernel_rfl) (by kernel_rfl)) ?_
  refine aw_plain_seq (r := sub (bodyOf Try.f45) [true, false]) (y := sub (bodyOf Try.f45) [true, true]) (id := 1) (ops := regOps (sub (bodyOf Try.f45) [true, false])) (by kernel_rfl) (by kernel_rfl) (by kernel_rfl) (by kernel_rfl) (
      .cons (d := some 1) (by kernel_rfl) (does_call0 (x := .func 48) (ars := #[.const (.int .i64 0), .const (.int .i64 0)]) (ats := #[3, 3]) (g := 48) (vs := [.int .i64 0, .int .i64 0]) (v := .agg #[.int .i64 0, .int .i64 0]) (by kernel_rfl) (by kernel_rfl) (by kernel_rfl) (by kernel_rfl) (terrkeep1_at_ok 0 0) (by kernel_rfl) (by kernel_rfl)) <|
      .cons (d := some 2) (by kernel_rfl) (does_call0 (x := .func 48) (ars := #[.const (.int .i64 2), .const (.int .i64 0)]) (ats := #[3, 3]) (g := 48) (vs := [.int .i64 2, .int .i64 0]) (v := .agg #[.int .i64 2, .int .i64 0]) (by kernel_rfl) (by kernel_rfl) (by kernel_rfl) (by kernel_rfl) (terrkeep1_at_ok 2 0) (by kernel_rfl) (by kernel_rfl)) <|
      .cons (d := some 3) (by kernel_rfl) (does_call0 (x := .func 48) (ars := #[.const (.int .i64 1), .const (.int .i64 1)]) (ats := #[3, 3]) (g := 48) (vs := [.int .i64 1, .int .i64 1]) (v := .agg #[.int .i64 1, .int .i64 1]) (by kernel_rfl) (by kernel_rfl) (by kernel_rfl) (by kernel_rfl) (terrkeep1_at_ok 1 1) (by kernel_rfl) (by kernel_rfl)) <|
      .cons (d := some 4) (by kernel_rfl) (does_call0 (x := .func 39) (ars := #[.tmp 1, .tmp 2, .tmp 3]) (ats := #[24, 24, 24]) (g := 39) (vs := [.agg #[.int .i64 0, .int .i64 0], .agg #[.int .i64 2, .int .i64 0], .agg #[.int .i64 1, .int .i64 1]]) (v := .int .i64 (Sp.cmp (Sp.crs (Sp.lim 1048576 0) (Sp.lim 1048576 0) (Sp.lim 1048576 2) (Sp.lim 1048576 0) (Sp.lim 1048576 1) (Sp.lim 1048576 1)) 0)) (by kernel_rfl) (by kernel_rfl) (by kernel_rfl) (by kernel_rfl) (turn_ok 0 0 2 0 1 1) (by kernel_rfl) (by kernel_rfl)) <|
      .cons (d := some 5) (by kernel_rfl) (does_bool (b' := true) (does_pure (v := .bool ((Sp.cmp (Sp.crs (Sp.lim 1048576 0) (Sp.lim 1048576 0) (Sp.lim 1048576 2) (Sp.lim 1048576 0) (Sp.lim 1048576 1) (Sp.lim 1048576 1)) 0) == 1)) (by kernel_rfl) (fun w => by kernel_rfl) (by kernel_rfl)) (by decide)) <|
      .cons (d := some 6) (by kernel_rfl) (does_move (x := .tmp 5) (v := .bool true) (by kernel_rfl) (by kernel_rfl)) <|
      .cons (d := some 7) (by kernel_rfl) (does_call0 (x := .func 48) (ars := #[.const (.int .i64 0), .const (.int .i64 0)]) (ats := #[3, 3]) (g := 48) (vs := [.int .i64 0, .int .i64 0]) (v := .agg #[.int .i64 0, .int .i64 0]) (by kernel_rfl) (by kernel_rfl) (by kernel_rfl) (by kernel_rfl) (terrkeep1_at_ok 0 0) (by kernel_rfl) (by kernel_rfl)) <|
      .cons (d := some 8) (by kernel_rfl) (does_call0 (x := .func 48) (ars := #[.const (.int .i64 3), .const (.int .i64 4)]) (ats := #[3, 3]) (g := 48) (vs := [.int .i64 3, .int .i64 4]) (v := .agg #[.int .i64 3, .int .i64 4]) (by kernel_rfl) (by kernel_rfl) (by kernel_rfl) (by kernel_rfl) (terrkeep1_at_ok 3 4) (by kernel_rfl) (by kernel_rfl)) <|
      .cons (d := some 9) (by kernel_rfl) (does_call0 (x := .func 41) (ars := #[.tmp 7, .tmp 8]) (ats := #[24, 24]) (g := 41) (vs := [.agg #[.int .i64 0, .int .i64 0], .agg #[.int .i64 3, .int .i64 4]]) (v := .int .i64 (Sp.dot (Sp.lim 1048576 0) (Sp.lim 1048576 0) (Sp.lim 1048576 3) (Sp.lim 1048576 4) (Sp.lim 1048576 3) (Sp.lim 1048576 4))) (by kernel_rfl) (by kernel_rfl) (by kernel_rfl) (by kernel_rfl) (sq_ok 0 0 3 4) (by kernel_rfl) (by kernel_rfl)) <|
      .cons (d := some 10) (by kernel_rfl) (does_bool (b' := true) (does_pure (v := .bool ((Sp.dot (Sp.lim 1048576 0) (Sp.lim 1048576 0) (Sp.lim 1048576 3) (Sp.lim 1048576 4) (Sp.lim 1048576 3) (Sp.lim 1048576 4)) == 25)) (by kernel_rfl) (fun w => by kernel_rfl) (by kernel_rfl)) (by decide)) <|
      .cons (d := some 11) (by kernel_rfl) (does_pick (c := .tmp 6) (x := .tmp 10) (y := .const (.bool false)) (b := true) (v := .bool true) (by kernel_rfl) (by kernel_rfl) (by kernel_rfl)) <|
      .cons (d := some 0) (by kernel_rfl) (does_assign (x := .tmp 11) (v := .bool true) (by kernel_rfl) (by kernel_rfl)) <|
      .nil _ _) ?_
  refine aw_weak (weak_b (T := [(0, .bool true)]) (L := []) (by kernel_rfl) (by kernel_rfl) (by kernel_rfl)) ?_
  refine aw_ret (by kernel_rfl) ?_
  exact end_ret (vs := [.bool true]) (by kernel_rfl) (by kernel_rfl) trivial


theorem cross_in (ax ay bx b_y cx cy : Int) (axl : -1048576 ≤ ax) (axu : ax ≤ 1048576) (ayl : -1048576 ≤ ay) (ayu : ay ≤ 1048576) (bxl : -1048576 ≤ bx) (bxu : bx ≤ 1048576) (b_yl : -1048576 ≤ b_y) (b_yu : b_y ≤ 1048576) (cxl : -1048576 ≤ cx) (cxu : cx ≤ 1048576) (cyl : -1048576 ≤ cy) (cyu : cy ≤ 1048576) : AC Try.prog 35 0 [.agg #[.int .i64 ax, .int .i64 ay], .agg #[.int .i64 bx, .int .i64 b_y], .agg #[.int .i64 cx, .int .i64 cy]] [] (.int .i64 (Sp.crs ax ay bx b_y cx cy)) [] := by
  have h := cross_ok ax ay bx b_y cx cy
  simp only [Sp.lim_id axl axu, Sp.lim_id ayl ayu, Sp.lim_id bxl bxu, Sp.lim_id b_yl b_yu, Sp.lim_id cxl cxu, Sp.lim_id cyl cyu] at h
  exact h

theorem dot_in (ax ay bx b_y cx cy : Int) (axl : -1048576 ≤ ax) (axu : ax ≤ 1048576) (ayl : -1048576 ≤ ay) (ayu : ay ≤ 1048576) (bxl : -1048576 ≤ bx) (bxu : bx ≤ 1048576) (b_yl : -1048576 ≤ b_y) (b_yu : b_y ≤ 1048576) (cxl : -1048576 ≤ cx) (cxu : cx ≤ 1048576) (cyl : -1048576 ≤ cy) (cyu : cy ≤ 1048576) : AC Try.prog 37 0 [.agg #[.int .i64 ax, .int .i64 ay], .agg #[.int .i64 bx, .int .i64 b_y], .agg #[.int .i64 cx, .int .i64 cy]] [] (.int .i64 (Sp.dot ax ay bx b_y cx cy)) [] := by
  have h := dot_ok ax ay bx b_y cx cy
  simp only [Sp.lim_id axl axu, Sp.lim_id ayl ayu, Sp.lim_id bxl bxu, Sp.lim_id b_yl b_yu, Sp.lim_id cxl cxu, Sp.lim_id cyl cyu] at h
  exact h

theorem turn_in (ax ay bx b_y cx cy : Int) (axl : -1048576 ≤ ax) (axu : ax ≤ 1048576) (ayl : -1048576 ≤ ay) (ayu : ay ≤ 1048576) (bxl : -1048576 ≤ bx) (bxu : bx ≤ 1048576) (b_yl : -1048576 ≤ b_y) (b_yu : b_y ≤ 1048576) (cxl : -1048576 ≤ cx) (cxu : cx ≤ 1048576) (cyl : -1048576 ≤ cy) (cyu : cy ≤ 1048576) : AC Try.prog 39 0 [.agg #[.int .i64 ax, .int .i64 ay], .agg #[.int .i64 bx, .int .i64 b_y], .agg #[.int .i64 cx, .int .i64 cy]] [] (.int .i64 (Sp.cmp (Sp.crs ax ay bx b_y cx cy) 0)) [] := by
  have h := turn_ok ax ay bx b_y cx cy
  simp only [Sp.lim_id axl axu, Sp.lim_id ayl ayu, Sp.lim_id bxl bxu, Sp.lim_id b_yl b_yu, Sp.lim_id cxl cxu, Sp.lim_id cyl cyu] at h
  exact h

theorem sq_in (ax ay bx b_y : Int) (axl : -1048576 ≤ ax) (axu : ax ≤ 1048576) (ayl : -1048576 ≤ ay) (ayu : ay ≤ 1048576) (bxl : -1048576 ≤ bx) (bxu : bx ≤ 1048576) (b_yl : -1048576 ≤ b_y) (b_yu : b_y ≤ 1048576) : AC Try.prog 41 0 [.agg #[.int .i64 ax, .int .i64 ay], .agg #[.int .i64 bx, .int .i64 b_y]] [] (.int .i64 (Sp.dot ax ay bx b_y bx b_y)) [] := by
  have h := sq_ok ax ay bx b_y
  simp only [Sp.lim_id axl axu, Sp.lim_id ayl ayu, Sp.lim_id bxl bxu, Sp.lim_id b_yl b_yu] at h
  exact h

theorem on_in (ax ay bx b_y cx cy : Int) (axl : -1048576 ≤ ax) (axu : ax ≤ 1048576) (ayl : -1048576 ≤ ay) (ayu : ay ≤ 1048576) (bxl : -1048576 ≤ bx) (bxu : bx ≤ 1048576) (b_yl : -1048576 ≤ b_y) (b_yu : b_y ≤ 1048576) (cxl : -1048576 ≤ cx) (cxu : cx ≤ 1048576) (cyl : -1048576 ≤ cy) (cyu : cy ≤ 1048576) : AC Try.prog 43 0 [.agg #[.int .i64 ax, .int .i64 ay], .agg #[.int .i64 bx, .int .i64 b_y], .agg #[.int .i64 cx, .int .i64 cy]] [] (.bool (Sp.onb ax ay bx b_y cx cy)) [] := by
  have h := on_ok ax ay bx b_y cx cy
  simp only [Sp.lim_id axl axu, Sp.lim_id ayl ayu, Sp.lim_id bxl bxu, Sp.lim_id b_yl b_yu, Sp.lim_id cxl cxu, Sp.lim_id cyl cyu] at h
  exact h

theorem pok_in (ax ay : Int) (h1 : -1048576 ≤ ax) (h2 : ax ≤ 1048576) (h3 : -1048576 ≤ ay) (h4 : ay ≤ 1048576) : AC Try.prog 30 0 [.agg #[.int .i64 ax, .int .i64 ay]] [] (.bool true) [] := by
  have h := pok_ok ax ay
  rw [Sp.lim_id h1 h2, Sp.lim_id h3 h4] at h
  simpa using h

theorem angle_in (ax ay bx b_y : Int) (axl : -2097152 ≤ ax) (axu : ax ≤ 2097152) (ayl : -2097152 ≤ ay) (ayu : ay ≤ 2097152) (bxl : -2097152 ≤ bx) (bxu : bx ≤ 2097152) (b_yl : -2097152 ≤ b_y) (b_yu : b_y ≤ 2097152) : AC Try.prog 59 0 [.agg #[.int .i64 ax, .int .i64 ay], .agg #[.int .i64 bx, .int .i64 b_y]] [] (.int .i64 (Sp.angle ax ay bx b_y)) [] := by
  have h := angle_ok ax ay bx b_y
  simp only [Sp.lim_id axl axu, Sp.lim_id ayl ayu, Sp.lim_id bxl bxu, Sp.lim_id b_yl b_yu] at h
  exact h

end Go.Proofs.Ytpfdihhlpegllaa.Am
