/-
  The walks of the curve.
-/
import Derived.Test.YtpfdihhlpegllaaProg
import Derived.Test.YtpfdihhlpegllaaAm10
import Derived.Test.YtpfdihhlpegllaaSp4
import Derived.Test.YtpfdihhlpegllaaPt1
namespace Go.Proofs.Ytpfdihhlpegllaa.Am
open Go Go.Proofs
set_option maxRecDepth 100000
set_option maxHeartbeats 4000000
set_option linter.unusedVariables false
set_option linter.unusedSimpArgs false

theorem xor_dg {r u : Int} (hr : r = 0 ∨ r = 1) (hu : u = 0 ∨ u = 1) : IntKind.wrap .i64 ((BitVec.ofInt 64 (3 * r) ^^^ BitVec.ofInt 64 u).toNat : Int) = Sp.dg r u := by
  rcases hr with rfl | rfl <;> rcases hu with rfl | rfl <;> decide
theorem IntKind_tdiv2 (s : Int) (h0 : 0 ≤ s) (hb : s ≤ 9223372036854775807) : IntKind.wrap .i64 (Int.tdiv s 2) = s / 2 := wquo h0 hb (by decide)
theorem turned_ok (x y s r u : Int) (hx : 0 ≤ x ∧ x < s) (hy : 0 ≤ y ∧ y < s) (hs : s ≤ 4611686018427387904) :
    AC Try.prog 75 0 ([.int .i64 x, .int .i64 y, .int .i64 s, .int .i64 r, .int .i64 u]) [] (.tuple #[.int .i64 (Sp.tx x y s r u), .int .i64 (Sp.ty x y s r u)]) [] := by
  refine ac_intro (fn := Try.f75) (c := bodyOf Try.f75) Try.func75 (by kernel_rfl) (by kernel_rfl) (by kernel_rfl) ?_
  intro w0 W pin
  refine aw_sub ?_
  refine aw_plain_seq (r := sub (bodyOf Try.f75) [false]) (y := sub (bodyOf Try.f75) [true]) (id := 0) (ops := regOps (sub (bodyOf Try.f75) [false])) (by kernel_rfl) (by kernel_rfl) (by kernel_rfl) (by kernel_rfl) (
      .cons (d := some 10) (by kernel_rfl) (does_assign (x := .const (.int .i64 0)) (v := .int .i64 0) (by kernel_rfl) (by kernel_rfl)) <|
      .cons (d := some 11) (by kernel_rfl) (does_assign (x := .const (.int .i64 0)) (v := .int .i64 0) (by kernel_rfl) (by kernel_rfl)) <|
      .nil _ _) ?_
  refine aw_weak (weak_b (T := [(0, .int .i64 x), (1, .int .i64 y), (2, .int .i64 s), (3, .int .i64 r), (4, .int .i64 u), (10, .int .i64 0), (11, .int .i64 0)]) (L := []) (by kernel_rfl) (by kernel_rfl) (by kernel_rfl)) ?_
  refine aw_seq (x := sub (bodyOf Try.f75) [true, false]) (y := sub (bodyOf Try.f75) [true, true]) (by kernel_rfl) ?_
  refine aw_plain_seq (r := sub (bodyOf Try.f75) [true, false, false]) (y := sub (bodyOf Try.f75) [true, false, true]) (id := 1) (ops := regOps (sub (bodyOf Try.f75) [true, false, false])) (by kernel_rfl) (by kernel_rfl) (by kernel_rfl) (by kernel_rfl) (
      .cons (d := some 12) (by kernel_rfl) (does_move (x := .tmp 4) (v := .int .i64 u) (by kernel_rfl) (by kernel_rfl)) <|
      .cons (d := some 13) (by kernel_rfl) (does_pure (v := .bool (u == 1)) (by kernel_rfl) (fun w => by kernel_rfl) (by kernel_rfl)) <|
      .nil _ _) ?_
  refine aw_weak (weak_b (T := [(0, .int .i64 x), (1, .int .i64 y), (2, .int .i64 s), (3, .int .i64 r), (10, .int .i64 0), (11, .int .i64 0), (13, .bool (u == 1))]) (L := []) (by kernel_rfl) (by kernel_rfl) (by kernel_rfl)) ?_
  refine aw_cond (o := .tmp 13) (b := u == 1) (x := sub (bodyOf Try.f75) [true, false, true, false]) (y := sub (bodyOf Try.f75) [true, false, true, true]) (by kernel_rfl) (by kernel_rfl) (fun h1 => ?_) (fun h1 => ?_)
  · have h1p : ((u = 1)) := by first | (simpa using h1) | (have h1q := h1; simp at h1q; omega) | (have h1q := bx1 h1; simp at h1q; omega)
    refine aw_plain_seq (r := sub (bodyOf Try.f75) [true, false, true, false, false]) (y := sub (bodyOf Try.f75) [true, false, true, false, true]) (id := 2) (ops := regOps (sub (bodyOf Try.f75) [true, false, true, false, false])) (by kernel_rfl) (by kernel_rfl) (by kernel_rfl) (by kernel_rfl) (
        .cons (d := some 14) (by kernel_rfl) (does_move (x := .tmp 0) (v := .int .i64 x) (by kernel_rfl) (by kernel_rfl)) <|
        .cons (d := some 15) (by kernel_rfl) (does_move (x := .tmp 1) (v := .int .i64 y) (by kernel_rfl) (by kernel_rfl)) <|
        .cons (d := some 10) (by kernel_rfl) (does_assign (x := .tmp 14) (v := .int .i64 x) (by kernel_rfl) (by kernel_rfl)) <|
        .cons (d := some 11) (by kernel_rfl) (does_assign (x := .tmp 15) (v := .int .i64 y) (by kernel_rfl) (by kernel_rfl)) <|
        .nil _ _) ?_
    refine aw_weak (weak_b (T := [(0, .int .i64 x), (1, .int .i64 y), (2, .int .i64 s), (3, .int .i64 r), (10, .int .i64 x), (11, .int .i64 y), (13, .bool (u == 1))]) (L := []) (by kernel_rfl) (by kernel_rfl) (by kernel_rfl)) ?_
    refine aw_ret (by kernel_rfl) ?_
    refine then_ret ?_
    exact end_ret (vs := [.int .i64 x, .int .i64 y]) (by kernel_rfl) (show (.tuple #[.int .i64 x, .int .i64 y] : Value) = (.tuple #[.int .i64 (Sp.tx x y s r u), .int .i64 (Sp.ty x y s r u)]) from (congrArg (fun z : List Value => Value.tuple z.toArray) (lcons (congrArg (Value.int .i64) (show x = (Sp.tx x y s r u) from by (simp only [Sp.tx, Sp.ty]; (repeat' split) <;> omega))) (lcons (congrArg (Value.int .i64) (show y = (Sp.ty x y s r u) from by (simp only [Sp.tx, Sp.ty]; (repeat' split) <;> omega))) rfl)))) trivial
  · have h1p : ¬ ((u = 1)) := by first | (simpa using h1) | (have h1q := h1; simp at h1q; omega) | (have h1q := bx2 h1; simp at h1q; omega)
    refine aw_skip (by kernel_rfl) ?_
    refine then_normal ?_
    refine aw_seq (x := sub (bodyOf Try.f75) [true, true, false]) (y := sub (bodyOf Try.f75) [true, true, true]) (by kernel_rfl) ?_
    refine aw_plain_seq (r := sub (bodyOf Try.f75) [true, true, false, false]) (y := sub (bodyOf Try.f75) [true, true, false, true]) (id := 3) (ops := regOps (sub (bodyOf Try.f75) [true, true, false, false])) (by kernel_rfl) (by kernel_rfl) (by kernel_rfl) (by kernel_rfl) (
        .cons (d := some 16) (by kernel_rfl) (does_move (x := .tmp 3) (v := .int .i64 r) (by kernel_rfl) (by kernel_rfl)) <|
        .cons (d := some 17) (by kernel_rfl) (does_pure (v := .bool (r == 1)) (by kernel_rfl) (fun w => by kernel_rfl) (by kernel_rfl)) <|
        .nil _ _) ?_
    refine aw_weak (weak_b (T := [(0, .int .i64 x), (1, .int .i64 y), (2, .int .i64 s), (10, .int .i64 0), (11, .int .i64 0), (13, .bool (u == 1)), (17, .bool (r == 1))]) (L := []) (by kernel_rfl) (by kernel_rfl) (by kernel_rfl)) ?_
    refine aw_cond (o := .tmp 17) (b := r == 1) (x := sub (bodyOf Try.f75) [true, true, false, true, false]) (y := sub (bodyOf Try.f75) [true, true, false, true, true]) (by kernel_rfl) (by kernel_rfl) (fun h2 => ?_) (fun h2 => ?_)
    · have h2p : ((r = 1)) := by first | (simpa using h2) | (have h2q := h2; simp at h2q; omega) | (have h2q := bx1 h2; simp at h2q; omega)
      refine aw_plain (id := 4) (ops := regOps (sub (bodyOf Try.f75) [true, true, false, true, false])) (by kernel_rfl) (by kernel_rfl) (by kernel_rfl) (
          .cons (d := some 18) (by kernel_rfl) (does_move (x := .tmp 2) (v := .int .i64 s) (by kernel_rfl) (by kernel_rfl)) <|
          .cons (d := some 19) (by kernel_rfl) (does_int (n' := s - 1) (does_pure (v := .int .i64 (IntKind.wrap .i64 (s - 1))) (by kernel_rfl) (fun w => by kernel_rfl) (by kernel_rfl)) (wrap_i64 (by omega) (by omega))) <|
          .cons (d := some 20) (by kernel_rfl) (does_move (x := .tmp 0) (v := .int .i64 x) (by kernel_rfl) (by kernel_rfl)) <|
          .cons (d := some 21) (by kernel_rfl) (does_int (n' := (s - 1) - x) (does_pure (v := .int .i64 (IntKind.wrap .i64 ((s - 1) - x))) (by kernel_rfl) (fun w => by kernel_rfl) (by kernel_rfl)) (wrap_i64 (by omega) (by omega))) <|
          .cons (d := some 22) (by kernel_rfl) (does_move (x := .tmp 2) (v := .int .i64 s) (by kernel_rfl) (by kernel_rfl)) <|
          .cons (d := some 23) (by kernel_rfl) (does_int (n' := s - 1) (does_pure (v := .int .i64 (IntKind.wrap .i64 (s - 1))) (by kernel_rfl) (fun w => by kernel_rfl) (by kernel_rfl)) (wrap_i64 (by omega) (by omega))) <|
          .cons (d := some 24) (by kernel_rfl) (does_move (x := .tmp 1) (v := .int .i64 y) (by kernel_rfl) (by kernel_rfl)) <|
          .cons (d := some 25) (by kernel_rfl) (does_int (n' := (s - 1) - y) (does_pure (v := .int .i64 (IntKind.wrap .i64 ((s - 1) - y))) (by kernel_rfl) (fun w => by kernel_rfl) (by kernel_rfl)) (wrap_i64 (by omega) (by omega))) <|
          .cons (d := some 0) (by kernel_rfl) (does_assign (x := .tmp 21) (v := .int .i64 ((s - 1) - x)) (by kernel_rfl) (by kernel_rfl)) <|
          .cons (d := some 1) (by kernel_rfl) (does_assign (x := .tmp 25) (v := .int .i64 ((s - 1) - y)) (by kernel_rfl) (by kernel_rfl)) <|
          .nil _ _) ?_
      refine then_normal ?_
      refine aw_plain_seq (r := sub (bodyOf Try.f75) [true, true, true, false]) (y := sub (bodyOf Try.f75) [true, true, true, true]) (id := 5) (ops := regOps (sub (bodyOf Try.f75) [true, true, true, false])) (by kernel_rfl) (by kernel_rfl) (by kernel_rfl) (by kernel_rfl) (
          .cons (d := some 26) (by kernel_rfl) (does_move (x := .tmp 1) (v := .int .i64 ((s - 1) - y)) (by kernel_rfl) (by kernel_rfl)) <|
          .cons (d := some 27) (by kernel_rfl) (does_move (x := .tmp 0) (v := .int .i64 ((s - 1) - x)) (by kernel_rfl) (by kernel_rfl)) <|
          .cons (d := some 10) (by kernel_rfl) (does_assign (x := .tmp 26) (v := .int .i64 ((s - 1) - y)) (by kernel_rfl) (by kernel_rfl)) <|
          .cons (d := some 11) (by kernel_rfl) (does_assign (x := .tmp 27) (v := .int .i64 ((s - 1) - x)) (by kernel_rfl) (by kernel_rfl)) <|
          .nil _ _) ?_
      refine aw_weak (weak_b (T := [(0, .int .i64 ((s - 1) - x)), (1, .int .i64 ((s - 1) - y)), (10, .int .i64 ((s - 1) - y)), (11, .int .i64 ((s - 1) - x)), (13, .bool (u == 1)), (17, .bool (r == 1))]) (L := []) (by kernel_rfl) (by kernel_rfl) (by kernel_rfl)) ?_
      refine aw_ret (by kernel_rfl) ?_
      exact end_ret (vs := [.int .i64 ((s - 1) - y), .int .i64 ((s - 1) - x)]) (by kernel_rfl) (show (.tuple #[.int .i64 ((s - 1) - y), .int .i64 ((s - 1) - x)] : Value) = (.tuple #[.int .i64 (Sp.tx x y s r u), .int .i64 (Sp.ty x y s r u)]) from (congrArg (fun z : List Value => Value.tuple z.toArray) (lcons (congrArg (Value.int .i64) (show ((s - 1) - y) = (Sp.tx x y s r u) from by (simp only [Sp.tx, Sp.ty]; (repeat' split) <;> omega))) (lcons (congrArg (Value.int .i64) (show ((s - 1) - x) = (Sp.ty x y s r u) from by (simp only [Sp.tx, Sp.ty]; (repeat' split) <;> omega))) rfl)))) trivial
    · have h2p : ¬ ((r = 1)) := by first | (simpa using h2) | (have h2q := h2; simp at h2q; omega) | (have h2q := bx2 h2; simp at h2q; omega)
      refine aw_skip (by kernel_rfl) ?_
      refine then_normal ?_
      refine aw_plain_seq (r := sub (bodyOf Try.f75) [true, true, true, false]) (y := sub (bodyOf Try.f75) [true, true, true, true]) (id := 5) (ops := regOps (sub (bodyOf Try.f75) [true, true, true, false])) (by kernel_rfl) (by kernel_rfl) (by kernel_rfl) (by kernel_rfl) (
          .cons (d := some 26) (by kernel_rfl) (does_move (x := .tmp 1) (v := .int .i64 y) (by kernel_rfl) (by kernel_rfl)) <|
          .cons (d := some 27) (by kernel_rfl) (does_move (x := .tmp 0) (v := .int .i64 x) (by kernel_rfl) (by kernel_rfl)) <|
          .cons (d := some 10) (by kernel_rfl) (does_assign (x := .tmp 26) (v := .int .i64 y) (by kernel_rfl) (by kernel_rfl)) <|
          .cons (d := some 11) (by kernel_rfl) (does_assign (x := .tmp 27) (v := .int .i64 x) (by kernel_rfl) (by kernel_rfl)) <|
          .nil _ _) ?_
      refine aw_weak (weak_b (T := [(0, .int .i64 x), (1, .int .i64 y), (2, .int .i64 s), (10, .int .i64 y), (11, .int .i64 x), (13, .bool (u == 1)), (17, .bool (r == 1))]) (L := []) (by kernel_rfl) (by kernel_rfl) (by kernel_rfl)) ?_
      refine aw_ret (by kernel_rfl) ?_
      exact end_ret (vs := [.int .i64 y, .int .i64 x]) (by kernel_rfl) (show (.tuple #[.int .i64 y, .int .i64 x] : Value) = (.tuple #[.int .i64 (Sp.tx x y s r u), .int .i64 (Sp.ty x y s r u)]) from (congrArg (fun z : List Value => Value.tuple z.toArray) (lcons (congrArg (Value.int .i64) (show y = (Sp.tx x y s r u) from by (simp only [Sp.tx, Sp.ty]; (repeat' split) <;> omega))) (lcons (congrArg (Value.int .i64) (show x = (Sp.ty x y s r u) from by (simp only [Sp.tx, Sp.ty]; (repeat' split) <;> omega))) rfl)))) trivial

theorem cindex_ok (ax ay : Int) :
    AC Try.prog 26 0 ([.agg #[.int .i64 ax, .int .i64 ay]]) [] (.int .i64 (Sp.index ax ay)) [] := by
  have q1 := Sp.lim_bd (m := 1048576) (by decide) ax; have q2 := Sp.lim_bd (m := 1048576) (by decide) ay; have e22 : Sp.pw 22 = 4194304 := (by decide); obtain ⟨N, hN, b22⟩ : ∃ N, N = Sp.index ax ay ∧ 0 ≤ N ∧ N < 17592186044416 := ⟨_, rfl, Sp.index_bd ax ay⟩
  refine ac_intro (fn := Try.f26) (c := bodyOf Try.f26) Try.func26 (by kernel_rfl) (by kernel_rfl) (by kernel_rfl) ?_
  intro w0 W pin
  refine aw_sub ?_
  refine aw_plain_seq (r := sub (bodyOf Try.f26) [false]) (y := sub (bodyOf Try.f26) [true]) (id := 0) (ops := regOps (sub (bodyOf Try.f26) [false])) (by kernel_rfl) (by kernel_rfl) (by kernel_rfl) (by kernel_rfl) (
      .cons (d := some 1) (by kernel_rfl) (does_box (t := 24) (x := .tmp 0) (k := 1) (v := .agg #[.int .i64 ax, .int .i64 ay]) (cells := [.int .i64 ax, .int .i64 ay]) (by kernel_rfl) (by kernel_rfl) (by kernel_rfl) (by kernel_rfl)) <|
      .cons (d := some 2) (by kernel_rfl) (does_assign (x := .const (.int .i64 0)) (v := .int .i64 0) (by kernel_rfl) (by kernel_rfl)) <|
      .nil _ _) ?_
  refine aw_weak (weak_b (T := [(1, .pointer (some ⟨1, 0, none⟩)), (2, .int .i64 0)]) (L := [(1, ⟨[.int .i64 ax, .int .i64 ay], 24, true, 2⟩)]) (by kernel_rfl) (by kernel_rfl) (by kernel_rfl)) ?_
  refine aw_plain_seq (r := sub (bodyOf Try.f26) [true, false]) (y := sub (bodyOf Try.f26) [true, true]) (id := 1) (ops := regOps (sub (bodyOf Try.f26) [true, false])) (by kernel_rfl) (by kernel_rfl) (by kernel_rfl) (by kernel_rfl) (
      .cons (d := some 9) (by kernel_rfl) (does_load (t := 24) (x := .tmp 1) (k := 1) (off := 0) (b := ⟨[.int .i64 ax, .int .i64 ay], 24, true, 2⟩) (v := .agg #[.int .i64 ax, .int .i64 ay]) (by kernel_rfl) (by kernel_rfl) (by kernel_rfl) (by kernel_rfl)) <|
      .cons (d := some 10) (by kernel_rfl) (does_call0 (x := .func 32) (ars := #[.tmp 9]) (ats := #[24]) (g := 32) (vs := [.agg #[.int .i64 ax, .int .i64 ay]]) (v := .agg #[.int .i64 (Sp.lim 1048576 ax), .int .i64 (Sp.lim 1048576 ay)]) (by kernel_rfl) (by kernel_rfl) (by kernel_rfl) (by kernel_rfl) (clamp_ok ax ay) (by kernel_rfl) (by kernel_rfl)) <|
      .cons (d := none) (by kernel_rfl) (does_store (t := 24) (x := .tmp 1) (y := .tmp 10) (k := 1) (off := 0) (b := ⟨[.int .i64 ax, .int .i64 ay], 24, true, 2⟩) (v := .agg #[.int .i64 (Sp.lim 1048576 ax), .int .i64 (Sp.lim 1048576 ay)]) (cells := [.int .i64 (Sp.lim 1048576 ax), .int .i64 (Sp.lim 1048576 ay)]) (by kernel_rfl) (by kernel_rfl) (by kernel_rfl) (by kernel_rfl) rfl (by kernel_rfl) (by kernel_rfl) (by kernel_rfl) (by kernel_rfl)) <|
      .nil _ _) ?_
  refine aw_weak (weak_b (T := [(1, .pointer (some ⟨1, 0, none⟩)), (2, .int .i64 0)]) (L := [(1, ⟨[.int .i64 (Sp.lim 1048576 ax), .int .i64 (Sp.lim 1048576 ay)], 24, true, 2⟩)]) (by kernel_rfl) (by kernel_rfl) (by kernel_rfl)) ?_
  refine aw_draws_seq (r := sub (bodyOf Try.f26) [true, true, false]) (y := sub (bodyOf Try.f26) [true, true, true]) (id := 2) (ops := regOps (sub (bodyOf Try.f26) [true, true, false])) [[], [0], [0, 1], [], [3], [3, 4], [0, 1, 2], [0, 1, 2, 3, 4, 5, 6]] (by kernel_rfl) (by kernel_rfl) (by kernel_rfl) (by kernel_rfl) (by kernel_rfl) (by kernel_rfl) (
      .cons (d := some 11) (by kernel_rfl) (does_fieldAddr (s := 24) (x := .tmp 1) (f := 0) (k := 1) (off := 0) (d := 0) (by kernel_rfl) (by kernel_rfl) (by kernel_rfl)) <|
      .cons (d := some 12) (by kernel_rfl) (does_load (t := 3) (x := .tmp 11) (k := 1) (off := 0) (b := ⟨[.int .i64 (Sp.lim 1048576 ax), .int .i64 (Sp.lim 1048576 ay)], 24, true, 2⟩) (v := .int .i64 (Sp.lim 1048576 ax)) (by kernel_rfl) (by kernel_rfl) (by kernel_rfl) (by kernel_rfl)) <|
      .cons (d := some 13) (by kernel_rfl) (does_int (n' := (Sp.lim 1048576 ax) + 1048576) (does_pure (v := .int .i64 (IntKind.wrap .i64 ((Sp.lim 1048576 ax) + 1048576))) (by kernel_rfl) (fun w => by kernel_rfl) (by kernel_rfl)) (wrap_i64 (by omega) (by omega))) <|
      .cons (d := some 14) (by kernel_rfl) (does_fieldAddr (s := 24) (x := .tmp 1) (f := 1) (k := 1) (off := 0) (d := 1) (by kernel_rfl) (by kernel_rfl) (by kernel_rfl)) <|
      .cons (d := some 15) (by kernel_rfl) (does_load (t := 3) (x := .tmp 14) (k := 1) (off := 1) (b := ⟨[.int .i64 (Sp.lim 1048576 ax), .int .i64 (Sp.lim 1048576 ay)], 24, true, 2⟩) (v := .int .i64 (Sp.lim 1048576 ay)) (by kernel_rfl) (by kernel_rfl) (by kernel_rfl) (by kernel_rfl)) <|
      .cons (d := some 16) (by kernel_rfl) (does_int (n' := (Sp.lim 1048576 ay) + 1048576) (does_pure (v := .int .i64 (IntKind.wrap .i64 ((Sp.lim 1048576 ay) + 1048576))) (by kernel_rfl) (fun w => by kernel_rfl) (by kernel_rfl)) (wrap_i64 (by omega) (by omega))) <|
      .cons (d := some 3) (by kernel_rfl) (does_assign (x := .tmp 13) (v := .int .i64 ((Sp.lim 1048576 ax) + 1048576)) (by kernel_rfl) (by kernel_rfl)) <|
      .cons (d := some 4) (by kernel_rfl) (does_assign (x := .tmp 16) (v := .int .i64 ((Sp.lim 1048576 ay) + 1048576)) (by kernel_rfl) (by kernel_rfl)) <|
      .nil _ _) ?_
  refine aw_weak (weak_b (T := [(1, .pointer (some ⟨1, 0, none⟩)), (2, .int .i64 0), (3, .int .i64 ((Sp.lim 1048576 ax) + 1048576)), (4, .int .i64 ((Sp.lim 1048576 ay) + 1048576))]) (L := [(1, ⟨[.int .i64 (Sp.lim 1048576 ax), .int .i64 (Sp.lim 1048576 ay)], 24, true, 2⟩)]) (by kernel_rfl) (by kernel_rfl) (by kernel_rfl)) ?_
  refine aw_plain_seq (r := sub (bodyOf Try.f26) [true, true, true, false]) (y := sub (bodyOf Try.f26) [true, true, true, true]) (id := 3) (ops := regOps (sub (bodyOf Try.f26) [true, true, true, false])) (by kernel_rfl) (by kernel_rfl) (by kernel_rfl) (by kernel_rfl) (
      .cons (d := some 5) (by kernel_rfl) (does_assign (x := .const (.int .i64 0)) (v := .int .i64 0) (by kernel_rfl) (by kernel_rfl)) <|
      .nil _ _) ?_
  refine aw_weak (weak_b (T := [(1, .pointer (some ⟨1, 0, none⟩)), (2, .int .i64 0), (3, .int .i64 ((Sp.lim 1048576 ax) + 1048576)), (4, .int .i64 ((Sp.lim 1048576 ay) + 1048576)), (5, .int .i64 0)]) (L := [(1, ⟨[.int .i64 (Sp.lim 1048576 ax), .int .i64 (Sp.lim 1048576 ay)], 24, true, 2⟩)]) (by kernel_rfl) (by kernel_rfl) (by kernel_rfl)) ?_
  refine aw_seq (x := sub (bodyOf Try.f26) [true, true, true, true, false]) (y := sub (bodyOf Try.f26) [true, true, true, true, true]) (by kernel_rfl) ?_
  refine aw_plain_seq (r := sub (bodyOf Try.f26) [true, true, true, true, false, false]) (y := sub (bodyOf Try.f26) [true, true, true, true, false, true]) (id := 4) (ops := regOps (sub (bodyOf Try.f26) [true, true, true, true, false, false])) (by kernel_rfl) (by kernel_rfl) (by kernel_rfl) (by kernel_rfl) (
      .cons (d := some 6) (by kernel_rfl) (does_assign (x := .const (.int .i64 2097152)) (v := .int .i64 2097152) (by kernel_rfl) (by kernel_rfl)) <|
      .nil _ _) ?_
  refine aw_weak (weak_b (T := [(1, .pointer (some ⟨1, 0, none⟩)), (2, .int .i64 0), (3, .int .i64 ((Sp.lim 1048576 ax) + 1048576)), (4, .int .i64 ((Sp.lim 1048576 ay) + 1048576)), (5, .int .i64 0), (6, .int .i64 2097152)]) (L := [(1, ⟨[.int .i64 (Sp.lim 1048576 ax), .int .i64 (Sp.lim 1048576 ay)], 24, true, 2⟩)]) (by kernel_rfl) (by kernel_rfl) (by kernel_rfl)) ?_
  refine aw_block (id := 0) (x := sub (bodyOf Try.f26) [true, true, true, true, false, true, true]) (by kernel_rfl) ?_
  refine aw_rounds (x := sub (bodyOf Try.f26) [true, true, true, true, false, true, true, true]) (by kernel_rfl) ?_
  refine al_weak (weak_b (T := [(1, .pointer (some ⟨1, 0, none⟩)), (2, .int .i64 0), (3, .int .i64 (Sp.lim 1048576 ax + 1048576)), (4, .int .i64 (Sp.lim 1048576 ay + 1048576)), (5, .int .i64 0), (6, .int .i64 (Sp.sd 22))]) (L := [(1, ⟨[.int .i64 (Sp.lim 1048576 ax), .int .i64 (Sp.lim 1048576 ay)], 24, true, 2⟩)]) (by kernel_rfl) (by kernel_rfl) (by kernel_rfl)) ?_
  refine al_ind (fun i : Nat × Int × Int × Int => (fun (j : Nat) (x : Int) (y : Int) (n : Int) => mkSt 0 [(1, .pointer (some ⟨1, 0, none⟩)), (2, .int .i64 0), (3, .int .i64 x), (4, .int .i64 y), (5, .int .i64 n), (6, .int .i64 (Sp.sd j))] [(1, ⟨[.int .i64 (Sp.lim 1048576 ax), .int .i64 (Sp.lim 1048576 ay)], 24, true, 2⟩)]) i.1 i.2.1 i.2.2.1 i.2.2.2) (fun i : Nat × Int × Int × Int => (fun (j : Nat) (x : Int) (y : Int) (n : Int) => (j ≤ 22) ∧ (0 ≤ x ∧ x < Sp.pw j) ∧ (0 ≤ y ∧ y < Sp.pw j) ∧ (0 ≤ n) ∧ (n + Sp.idx j x y = N)) i.1 i.2.1 i.2.2.1 i.2.2.2) (fun i : Nat × Int × Int × Int => (fun (j : Nat) (x : Int) (y : Int) (n : Int) => j) i.1 i.2.1 i.2.2.1 i.2.2.2) (fun i hi1 ih1 => ?_) (22, (Sp.lim 1048576 ax + 1048576), (Sp.lim 1048576 ay + 1048576), 0) (show (22 ≤ 22) ∧ (0 ≤ (Sp.lim 1048576 ax + 1048576) ∧ (Sp.lim 1048576 ax + 1048576) < Sp.pw 22) ∧ (0 ≤ (Sp.lim 1048576 ay + 1048576) ∧ (Sp.lim 1048576 ay + 1048576) < Sp.pw 22) ∧ (0 ≤ 0) ∧ (0 + Sp.idx 22 (Sp.lim 1048576 ax + 1048576) (Sp.lim 1048576 ay + 1048576) = N) from ⟨by omega, by rw [e22]; omega, by rw [e22]; omega, by omega, by rw [Int.zero_add]; exact hN.symm⟩)
  obtain ⟨j, x, y, n⟩ := i
  have hi1' : (j ≤ 22) ∧ (0 ≤ x ∧ x < Sp.pw j) ∧ (0 ≤ y ∧ y < Sp.pw j) ∧ (0 ≤ n) ∧ (n + Sp.idx j x y = N) := hi1
  obtain ⟨hj, hx, hy, hn, he⟩ := hi1'
  show AL _ _ _ (mkSt 0 [(1, .pointer (some ⟨1, 0, none⟩)), (2, .int .i64 0), (3, .int .i64 x), (4, .int .i64 y), (5, .int .i64 n), (6, .int .i64 (Sp.sd j))] [(1, ⟨[.int .i64 (Sp.lim 1048576 ax), .int .i64 (Sp.lim 1048576 ay)], 24, true, 2⟩)]) _
  refine al_round ?_
  refine aw_seq (x := sub (bodyOf Try.f26) [true, true, true, true, false, true, true, true, false]) (y := sub (bodyOf Try.f26) [true, true, true, true, false, true, true, true, true]) (by kernel_rfl) ?_
  refine aw_plain_seq (r := sub (bodyOf Try.f26) [true, true, true, true, false, true, true, true, false, false]) (y := sub (bodyOf Try.f26) [true, true, true, true, false, true, true, true, false, true]) (id := 5) (ops := regOps (sub (bodyOf Try.f26) [true, true, true, true, false, true, true, true, false, false])) (by kernel_rfl) (by kernel_rfl) (by kernel_rfl) (by kernel_rfl) (
      .cons (d := some 17) (by kernel_rfl) (does_move (x := .tmp 6) (v := .int .i64 (Sp.sd j)) (by kernel_rfl) (by kernel_rfl)) <|
      .cons (d := some 18) (by kernel_rfl) (does_pure (v := .bool (decide ((Sp.sd j) > 0))) (by kernel_rfl) (fun w => by kernel_rfl) (by kernel_rfl)) <|
      .nil _ _) ?_
  refine aw_weak (weak_b (T := [(1, .pointer (some ⟨1, 0, none⟩)), (2, .int .i64 0), (3, .int .i64 x), (4, .int .i64 y), (5, .int .i64 n), (6, .int .i64 (Sp.sd j)), (18, .bool (decide ((Sp.sd j) > 0)))]) (L := [(1, ⟨[.int .i64 (Sp.lim 1048576 ax), .int .i64 (Sp.lim 1048576 ay)], 24, true, 2⟩)]) (by kernel_rfl) (by kernel_rfl) (by kernel_rfl)) ?_
  refine aw_cond (o := .tmp 18) (b := decide ((Sp.sd j) > 0)) (x := sub (bodyOf Try.f26) [true, true, true, true, false, true, true, true, false, true, false]) (y := sub (bodyOf Try.f26) [true, true, true, true, false, true, true, true, false, true, true]) (by kernel_rfl) (by kernel_rfl) (fun h1 => ?_) (fun h1 => ?_)
  · have h1p : (((Sp.sd j) > 0)) := by first | (simpa using h1) | (have h1q := h1; simp at h1q; omega) | (have h1q := bx1 h1; simp at h1q; omega)
    obtain ⟨i, hi, hs⟩ := Sp.sd_pos h1p
    have hx0 := hx; have hy0 := hy; have he0 := he; rw [hi] at hx0 hy0 he0
    obtain ⟨k1, k2, k3, k4, k5, k6, k7, k8, k9, k10, k11, k12⟩ := Sp.idx_round (i := i) (x := x) (y := y) (by omega) hx0 hy0
    refine aw_skip (by kernel_rfl) ?_
    refine then_normal ?_
    refine aw_seq (x := sub (bodyOf Try.f26) [true, true, true, true, false, true, true, true, true, false]) (y := sub (bodyOf Try.f26) [true, true, true, true, false, true, true, true, true, true]) (by kernel_rfl) ?_
    refine aw_block (id := 1) (x := sub (bodyOf Try.f26) [true, true, true, true, false, true, true, true, true, false, true]) (by kernel_rfl) ?_
    refine aw_draws_seq (r := sub (bodyOf Try.f26) [true, true, true, true, false, true, true, true, true, false, true, false]) (y := sub (bodyOf Try.f26) [true, true, true, true, false, true, true, true, true, false, true, true]) (id := 7) (ops := regOps (sub (bodyOf Try.f26) [true, true, true, true, false, true, true, true, true, false, true, false])) [[], [], [0, 1], [], [], [3, 4], [0, 1, 2], [0, 1, 2, 3, 4, 5, 6]] (by kernel_rfl) (by kernel_rfl) (by kernel_rfl) (by kernel_rfl) (by kernel_rfl) (by kernel_rfl) (
        .cons (d := some 21) (by kernel_rfl) (does_move (x := .tmp 3) (v := .int .i64 x) (by kernel_rfl) (by kernel_rfl)) <|
        .cons (d := some 22) (by kernel_rfl) (does_move (x := .tmp 6) (v := .int .i64 (Sp.sd j)) (by kernel_rfl) (by kernel_rfl)) <|
        .cons (d := some 23) (by kernel_rfl) (does_int (n' := x / Sp.pw i) (does_quo (t := 3) (t2 := 3) (x := .tmp 21) (y := .tmp 22) (k := .i64) (a := x) (b := (Sp.sd j)) (by kernel_rfl) (by kernel_rfl) (by kernel_rfl) (by omega)) (by rw [hs]; exact wquo (by omega) (by omega) (by omega))) <|
        .cons (d := some 24) (by kernel_rfl) (does_move (x := .tmp 4) (v := .int .i64 y) (by kernel_rfl) (by kernel_rfl)) <|
        .cons (d := some 25) (by kernel_rfl) (does_move (x := .tmp 6) (v := .int .i64 (Sp.sd j)) (by kernel_rfl) (by kernel_rfl)) <|
        .cons (d := some 26) (by kernel_rfl) (does_int (n' := y / Sp.pw i) (does_quo (t := 3) (t2 := 3) (x := .tmp 24) (y := .tmp 25) (k := .i64) (a := y) (b := (Sp.sd j)) (by kernel_rfl) (by kernel_rfl) (by kernel_rfl) (by omega)) (by rw [hs]; exact wquo (by omega) (by omega) (by omega))) <|
        .cons (d := some 7) (by kernel_rfl) (does_assign (x := .tmp 23) (v := .int .i64 (x / Sp.pw i)) (by kernel_rfl) (by kernel_rfl)) <|
        .cons (d := some 8) (by kernel_rfl) (does_assign (x := .tmp 26) (v := .int .i64 (y / Sp.pw i)) (by kernel_rfl) (by kernel_rfl)) <|
        .nil _ _) ?_
    refine aw_weak (weak_b (T := [(1, .pointer (some ⟨1, 0, none⟩)), (2, .int .i64 0), (3, .int .i64 x), (4, .int .i64 y), (5, .int .i64 n), (6, .int .i64 (Sp.sd j)), (7, .int .i64 (x / Sp.pw i)), (8, .int .i64 (y / Sp.pw i)), (18, .bool (decide ((Sp.sd j) > 0)))]) (L := [(1, ⟨[.int .i64 (Sp.lim 1048576 ax), .int .i64 (Sp.lim 1048576 ay)], 24, true, 2⟩)]) (by kernel_rfl) (by kernel_rfl) (by kernel_rfl)) ?_
    refine aw_plain_seq (r := sub (bodyOf Try.f26) [true, true, true, true, false, true, true, true, true, false, true, true, false]) (y := sub (bodyOf Try.f26) [true, true, true, true, false, true, true, true, true, false, true, true, true]) (id := 8) (ops := regOps (sub (bodyOf Try.f26) [true, true, true, true, false, true, true, true, true, false, true, true, false])) (by kernel_rfl) (by kernel_rfl) (by kernel_rfl) (by kernel_rfl) (
        .cons (d := some 27) (by kernel_rfl) (does_move (x := .tmp 5) (v := .int .i64 n) (by kernel_rfl) (by kernel_rfl)) <|
        .cons (d := some 28) (by kernel_rfl) (does_move (x := .tmp 6) (v := .int .i64 (Sp.sd j)) (by kernel_rfl) (by kernel_rfl)) <|
        .cons (d := some 29) (by kernel_rfl) (does_move (x := .tmp 6) (v := .int .i64 (Sp.sd j)) (by kernel_rfl) (by kernel_rfl)) <|
        .cons (d := some 30) (by kernel_rfl) (does_int (n' := Sp.pw i * Sp.pw i) (does_pure (v := .int .i64 (IntKind.wrap .i64 ((Sp.sd j) * (Sp.sd j)))) (by kernel_rfl) (fun w => by kernel_rfl) (by kernel_rfl)) (by rw [hs]; exact wrap_i64 (by omega) (by omega))) <|
        .cons (d := some 31) (by kernel_rfl) (does_move (x := .tmp 7) (v := .int .i64 (x / Sp.pw i)) (by kernel_rfl) (by kernel_rfl)) <|
        .cons (d := some 32) (by kernel_rfl) (does_int (n' := 3 * (x / Sp.pw i)) (does_pure (v := .int .i64 (IntKind.wrap .i64 (3 * (x / Sp.pw i)))) (by kernel_rfl) (fun w => by kernel_rfl) (by kernel_rfl)) (wrap_i64 (by omega) (by omega))) <|
        .cons (d := some 33) (by kernel_rfl) (does_move (x := .tmp 8) (v := .int .i64 (y / Sp.pw i)) (by kernel_rfl) (by kernel_rfl)) <|
        .cons (d := some 34) (by kernel_rfl) (does_int (n' := Sp.dg (x / Sp.pw i) (y / Sp.pw i)) (does_pure (v := .int .i64 (IntKind.wrap .i64 ((BitVec.ofInt 64 (3 * (x / Sp.pw i)) ^^^ BitVec.ofInt 64 (y / Sp.pw i)).toNat : Int))) (by kernel_rfl) (fun w => by kernel_rfl) (by kernel_rfl)) (xor_dg k1 k2)) <|
        .cons (d := some 35) (by kernel_rfl) (does_int (n' := (Sp.pw i * Sp.pw i) * (Sp.dg (x / Sp.pw i) (y / Sp.pw i))) (does_pure (v := .int .i64 (IntKind.wrap .i64 ((Sp.pw i * Sp.pw i) * (Sp.dg (x / Sp.pw i) (y / Sp.pw i))))) (by kernel_rfl) (fun w => by kernel_rfl) (by kernel_rfl)) (wrap_i64 (by omega) (by omega))) <|
        .cons (d := some 36) (by kernel_rfl) (does_int (n' := n + ((Sp.pw i * Sp.pw i) * (Sp.dg (x / Sp.pw i) (y / Sp.pw i)))) (does_pure (v := .int .i64 (IntKind.wrap .i64 (n + ((Sp.pw i * Sp.pw i) * (Sp.dg (x / Sp.pw i) (y / Sp.pw i)))))) (by kernel_rfl) (fun w => by kernel_rfl) (by kernel_rfl)) (wrap_i64 (by omega) (by omega))) <|
        .cons (d := some 5) (by kernel_rfl) (does_assign (x := .tmp 36) (v := .int .i64 (n + ((Sp.pw i * Sp.pw i) * (Sp.dg (x / Sp.pw i) (y / Sp.pw i))))) (by kernel_rfl) (by kernel_rfl)) <|
        .nil _ _) ?_
    refine aw_weak (weak_b (T := [(1, .pointer (some ⟨1, 0, none⟩)), (2, .int .i64 0), (3, .int .i64 x), (4, .int .i64 y), (5, .int .i64 (n + ((Sp.pw i * Sp.pw i) * (Sp.dg (x / Sp.pw i) (y / Sp.pw i))))), (6, .int .i64 (Sp.sd j)), (7, .int .i64 (x / Sp.pw i)), (8, .int .i64 (y / Sp.pw i)), (18, .bool (decide ((Sp.sd j) > 0)))]) (L := [(1, ⟨[.int .i64 (Sp.lim 1048576 ax), .int .i64 (Sp.lim 1048576 ay)], 24, true, 2⟩)]) (by kernel_rfl) (by kernel_rfl) (by kernel_rfl)) ?_
    refine aw_draws (id := 9) (ops := regOps (sub (bodyOf Try.f26) [true, true, true, true, false, true, true, true, true, false, true, true, true])) [[], [], [0, 1], [], [], [3, 4], [], [], [], [0, 1, 2, 3, 4, 5, 6, 7, 8], [0, 1, 2, 3, 4, 5, 6, 7, 8, 9], [0, 1, 2, 3, 4, 5, 6, 7, 8, 9, 10], [0, 1, 2, 3, 4, 5, 6, 7, 8, 9, 10], [0, 1, 2, 3, 4, 5, 6, 7, 8, 9, 10, 11], [0, 1, 2, 3, 4, 5, 6, 7, 8, 9, 10, 11, 12, 13]] (by kernel_rfl) (by kernel_rfl) (by kernel_rfl) (by kernel_rfl) (by kernel_rfl) (
        .cons (d := some 38) (by kernel_rfl) (does_move (x := .tmp 3) (v := .int .i64 x) (by kernel_rfl) (by kernel_rfl)) <|
        .cons (d := some 39) (by kernel_rfl) (does_move (x := .tmp 6) (v := .int .i64 (Sp.sd j)) (by kernel_rfl) (by kernel_rfl)) <|
        .cons (d := some 40) (by kernel_rfl) (does_int (n' := x % Sp.pw i) (does_rem (t := 3) (t2 := 3) (x := .tmp 38) (y := .tmp 39) (k := .i64) (a := x) (b := (Sp.sd j)) (by kernel_rfl) (by kernel_rfl) (by kernel_rfl) (by omega)) (by rw [hs]; exact wrem (by omega))) <|
        .cons (d := some 41) (by kernel_rfl) (does_move (x := .tmp 4) (v := .int .i64 y) (by kernel_rfl) (by kernel_rfl)) <|
        .cons (d := some 42) (by kernel_rfl) (does_move (x := .tmp 6) (v := .int .i64 (Sp.sd j)) (by kernel_rfl) (by kernel_rfl)) <|
        .cons (d := some 43) (by kernel_rfl) (does_int (n' := y % Sp.pw i) (does_rem (t := 3) (t2 := 3) (x := .tmp 41) (y := .tmp 42) (k := .i64) (a := y) (b := (Sp.sd j)) (by kernel_rfl) (by kernel_rfl) (by kernel_rfl) (by omega)) (by rw [hs]; exact wrem (by omega))) <|
        .cons (d := some 44) (by kernel_rfl) (does_int (n' := Sp.pw i) (does_move (x := .tmp 6) (v := .int .i64 (Sp.sd j)) (by kernel_rfl) (by kernel_rfl)) (hs)) <|
        .cons (d := some 45) (by kernel_rfl) (does_move (x := .tmp 7) (v := .int .i64 (x / Sp.pw i)) (by kernel_rfl) (by kernel_rfl)) <|
        .cons (d := some 46) (by kernel_rfl) (does_move (x := .tmp 8) (v := .int .i64 (y / Sp.pw i)) (by kernel_rfl) (by kernel_rfl)) <|
        .cons (d := some 47) (by kernel_rfl) (does_call0 (x := .func 75) (ars := #[.tmp 40, .tmp 43, .tmp 44, .tmp 45, .tmp 46]) (ats := #[3, 3, 3, 3, 3]) (g := 75) (vs := [.int .i64 (x % Sp.pw i), .int .i64 (y % Sp.pw i), .int .i64 (Sp.pw i), .int .i64 (x / Sp.pw i), .int .i64 (y / Sp.pw i)]) (v := .tuple #[.int .i64 (Sp.tx (x % Sp.pw i) (y % Sp.pw i) (Sp.pw i) (x / Sp.pw i) (y / Sp.pw i)), .int .i64 (Sp.ty (x % Sp.pw i) (y % Sp.pw i) (Sp.pw i) (x / Sp.pw i) (y / Sp.pw i))]) (by kernel_rfl) (by kernel_rfl) (by kernel_rfl) (by kernel_rfl) (turned_ok (x % Sp.pw i) (y % Sp.pw i) (Sp.pw i) (x / Sp.pw i) (y / Sp.pw i) (by omega) (by omega) (by omega)) (by kernel_rfl) (by kernel_rfl)) <|
        .cons (d := some 37) (by kernel_rfl) (does_move (x := .tmp 47) (v := .tuple #[.int .i64 (Sp.tx (x % Sp.pw i) (y % Sp.pw i) (Sp.pw i) (x / Sp.pw i) (y / Sp.pw i)), .int .i64 (Sp.ty (x % Sp.pw i) (y % Sp.pw i) (Sp.pw i) (x / Sp.pw i) (y / Sp.pw i))]) (by kernel_rfl) (by kernel_rfl)) <|
        .cons (d := some 48) (by kernel_rfl) (does_extract (x := .tmp 37) (n := 0) (vs := #[.int .i64 (Sp.tx (x % Sp.pw i) (y % Sp.pw i) (Sp.pw i) (x / Sp.pw i) (y / Sp.pw i)), .int .i64 (Sp.ty (x % Sp.pw i) (y % Sp.pw i) (Sp.pw i) (x / Sp.pw i) (y / Sp.pw i))]) (v := .int .i64 (Sp.tx (x % Sp.pw i) (y % Sp.pw i) (Sp.pw i) (x / Sp.pw i) (y / Sp.pw i))) (by kernel_rfl) (by kernel_rfl) (by kernel_rfl)) <|
        .cons (d := some 49) (by kernel_rfl) (does_extract (x := .tmp 37) (n := 1) (vs := #[.int .i64 (Sp.tx (x % Sp.pw i) (y % Sp.pw i) (Sp.pw i) (x / Sp.pw i) (y / Sp.pw i)), .int .i64 (Sp.ty (x % Sp.pw i) (y % Sp.pw i) (Sp.pw i) (x / Sp.pw i) (y / Sp.pw i))]) (v := .int .i64 (Sp.ty (x % Sp.pw i) (y % Sp.pw i) (Sp.pw i) (x / Sp.pw i) (y / Sp.pw i))) (by kernel_rfl) (by kernel_rfl) (by kernel_rfl)) <|
        .cons (d := some 3) (by kernel_rfl) (does_assign (x := .tmp 48) (v := .int .i64 (Sp.tx (x % Sp.pw i) (y % Sp.pw i) (Sp.pw i) (x / Sp.pw i) (y / Sp.pw i))) (by kernel_rfl) (by kernel_rfl)) <|
        .cons (d := some 4) (by kernel_rfl) (does_assign (x := .tmp 49) (v := .int .i64 (Sp.ty (x % Sp.pw i) (y % Sp.pw i) (Sp.pw i) (x / Sp.pw i) (y / Sp.pw i))) (by kernel_rfl) (by kernel_rfl)) <|
        .nil _ _) ?_
    refine block_normal ?_
    refine then_normal ?_
    refine aw_plain (id := 6) (ops := regOps (sub (bodyOf Try.f26) [true, true, true, true, false, true, true, true, true, true])) (by kernel_rfl) (by kernel_rfl) (by kernel_rfl) (
        .cons (d := some 19) (by kernel_rfl) (does_move (x := .tmp 6) (v := .int .i64 (Sp.sd j)) (by kernel_rfl) (by kernel_rfl)) <|
        .cons (d := some 20) (by kernel_rfl) (does_int (n' := Sp.sd i) (does_pure (v := .int .i64 (IntKind.wrap .i64 (Int.tdiv (Sp.sd j) 2))) (by kernel_rfl) (fun w => by kernel_rfl) (by kernel_rfl)) (by rw [hs, IntKind_tdiv2 _ (by omega) (by omega)]; exact Sp.sd_half i)) <|
        .cons (d := some 6) (by kernel_rfl) (does_assign (x := .tmp 20) (v := .int .i64 (Sp.sd i)) (by kernel_rfl) (by kernel_rfl)) <|
        .nil _ _) ?_
    refine then_normal ?_
    refine al_weak (weak_b (T := [(1, .pointer (some ⟨1, 0, none⟩)), (2, .int .i64 0), (3, .int .i64 (Sp.tx (x % Sp.pw i) (y % Sp.pw i) (Sp.pw i) (x / Sp.pw i) (y / Sp.pw i))), (4, .int .i64 (Sp.ty (x % Sp.pw i) (y % Sp.pw i) (Sp.pw i) (x / Sp.pw i) (y / Sp.pw i))), (5, .int .i64 (n + ((Sp.pw i * Sp.pw i) * (Sp.dg (x / Sp.pw i) (y / Sp.pw i))))), (6, .int .i64 (Sp.sd i))]) (L := [(1, ⟨[.int .i64 (Sp.lim 1048576 ax), .int .i64 (Sp.lim 1048576 ay)], 24, true, 2⟩)]) (by kernel_rfl) (by kernel_rfl) (by kernel_rfl)) ?_
    exact ih1 (i, (Sp.tx (x % Sp.pw i) (y % Sp.pw i) (Sp.pw i) (x / Sp.pw i) (y / Sp.pw i)), (Sp.ty (x % Sp.pw i) (y % Sp.pw i) (Sp.pw i) (x / Sp.pw i) (y / Sp.pw i)), (n + ((Sp.pw i * Sp.pw i) * (Sp.dg (x / Sp.pw i) (y / Sp.pw i))))) (show (i ≤ 22) ∧ (0 ≤ (Sp.tx (x % Sp.pw i) (y % Sp.pw i) (Sp.pw i) (x / Sp.pw i) (y / Sp.pw i)) ∧ (Sp.tx (x % Sp.pw i) (y % Sp.pw i) (Sp.pw i) (x / Sp.pw i) (y / Sp.pw i)) < Sp.pw i) ∧ (0 ≤ (Sp.ty (x % Sp.pw i) (y % Sp.pw i) (Sp.pw i) (x / Sp.pw i) (y / Sp.pw i)) ∧ (Sp.ty (x % Sp.pw i) (y % Sp.pw i) (Sp.pw i) (x / Sp.pw i) (y / Sp.pw i)) < Sp.pw i) ∧ (0 ≤ (n + ((Sp.pw i * Sp.pw i) * (Sp.dg (x / Sp.pw i) (y / Sp.pw i))))) ∧ ((n + ((Sp.pw i * Sp.pw i) * (Sp.dg (x / Sp.pw i) (y / Sp.pw i)))) + Sp.idx i (Sp.tx (x % Sp.pw i) (y % Sp.pw i) (Sp.pw i) (x / Sp.pw i) (y / Sp.pw i)) (Sp.ty (x % Sp.pw i) (y % Sp.pw i) (Sp.pw i) (x / Sp.pw i) (y / Sp.pw i)) = N) from ⟨by omega, by omega, by omega, by omega, by omega⟩) (show i < j from by omega)
  · have h1p : ¬ (((Sp.sd j) > 0)) := by first | (simpa using h1) | (have h1q := h1; simp at h1q; omega) | (have h1q := bx2 h1; simp at h1q; omega)
    refine aw_exit (id := 0) (by kernel_rfl) ?_
    refine then_exit ?_
    refine then_exit ?_
    refine block_exit ?_
    refine then_normal ?_
    refine aw_plain_seq (r := sub (bodyOf Try.f26) [true, true, true, true, true, false]) (y := sub (bodyOf Try.f26) [true, true, true, true, true, true]) (id := 10) (ops := regOps (sub (bodyOf Try.f26) [true, true, true, true, true, false])) (by kernel_rfl) (by kernel_rfl) (by kernel_rfl) (by kernel_rfl) (
        .cons (d := some 50) (by kernel_rfl) (does_move (x := .tmp 5) (v := .int .i64 n) (by kernel_rfl) (by kernel_rfl)) <|
        .cons (d := some 2) (by kernel_rfl) (does_assign (x := .tmp 50) (v := .int .i64 n) (by kernel_rfl) (by kernel_rfl)) <|
        .nil _ _) ?_
    refine aw_weak (weak_b (T := [(1, .pointer (some ⟨1, 0, none⟩)), (2, .int .i64 n), (3, .int .i64 x), (4, .int .i64 y), (5, .int .i64 n), (6, .int .i64 (Sp.sd j)), (18, .bool (decide ((Sp.sd j) > 0)))]) (L := [(1, ⟨[.int .i64 (Sp.lim 1048576 ax), .int .i64 (Sp.lim 1048576 ay)], 24, true, 2⟩)]) (by kernel_rfl) (by kernel_rfl) (by kernel_rfl)) ?_
    refine aw_ret (by kernel_rfl) ?_
    exact end_ret (vs := [.int .i64 n]) (by kernel_rfl) (show (.int .i64 n : Value) = (.int .i64 (Sp.index ax ay)) from (congrArg (Value.int .i64) (show n = (Sp.index ax ay) from by (have j0 := Sp.sd_zero (by assumption); subst j0; simp only [Sp.idx] at he; rw [← hN]; omega)))) trivial

theorem cof_ok (n : Int) :
    AC Try.prog 27 0 ([.int .i64 n]) [] (.tuple #[.agg #[.int .i64 (Sp.ofx n), .int .i64 (Sp.ofy n)], .int .i64 (Sp.ofe n)]) [] := by
  refine ac_intro (fn := Try.f27) (c := bodyOf Try.f27) Try.func27 (by kernel_rfl) (by kernel_rfl) (by kernel_rfl) ?_
  intro w0 W pin
  refine aw_sub ?_
  refine aw_plain_seq (r := sub (bodyOf Try.f27) [false]) (y := sub (bodyOf Try.f27) [true]) (id := 0) (ops := regOps (sub (bodyOf Try.f27) [false])) (by kernel_rfl) (by kernel_rfl) (by kernel_rfl) (by kernel_rfl) (
      .cons (d := some 2) (by kernel_rfl) (does_alloc (t := 24) (k := 1) (v := .agg #[.int .i64 0, .int .i64 0]) (cells := [.int .i64 0, .int .i64 0]) (by kernel_rfl) (by kernel_rfl) (by kernel_rfl) (by kernel_rfl) (by kernel_rfl)) <|
      .cons (d := some 3) (by kernel_rfl) (does_assign (x := .const (.int .i64 0)) (v := .int .i64 0) (by kernel_rfl) (by kernel_rfl)) <|
      .nil _ _) ?_
  refine aw_weak (weak_b (T := [(0, .int .i64 n), (2, .pointer (some ⟨1, 0, none⟩)), (3, .int .i64 0)]) (L := [(1, ⟨[.int .i64 0, .int .i64 0], 24, true, 2⟩)]) (by kernel_rfl) (by kernel_rfl) (by kernel_rfl)) ?_
  refine aw_seq (x := sub (bodyOf Try.f27) [true, false]) (y := sub (bodyOf Try.f27) [true, true]) (by kernel_rfl) ?_
  rcases Bool.eq_false_or_eq_true (decide (n < 0)) with h1 | h1
  · have h1p : ((n < 0)) := by first | (simpa using h1) | (have h1q := h1; simp at h1q; omega) | (have h1q := bx1 h1; simp at h1q; omega)
    have hofe : Sp.ofe n = 1 := by unfold Sp.ofe; rw [if_pos (by omega)]
    refine aw_plain_seq (r := sub (bodyOf Try.f27) [true, false, false]) (y := sub (bodyOf Try.f27) [true, false, true]) (id := 1) (ops := regOps (sub (bodyOf Try.f27) [true, false, false])) (by kernel_rfl) (by kernel_rfl) (by kernel_rfl) (by kernel_rfl) (
        .cons (d := some 10) (by kernel_rfl) (does_move (x := .tmp 0) (v := .int .i64 n) (by kernel_rfl) (by kernel_rfl)) <|
        .cons (d := some 11) (by kernel_rfl) (does_bool (b' := true) (does_pure (v := .bool (decide (n < 0))) (by kernel_rfl) (fun w => by kernel_rfl) (by kernel_rfl)) (h1)) <|
        .cons (d := some 12) (by kernel_rfl) (does_move (x := .tmp 11) (v := .bool true) (by kernel_rfl) (by kernel_rfl)) <|
        .cons (d := some 13) (by kernel_rfl) (does_skipB (by kernel_rfl)) <|
        .cons (d := some 14) (by kernel_rfl) (does_skipB (by kernel_rfl)) <|
        .cons (d := some 15) (by kernel_rfl) (does_pick (c := .tmp 12) (x := .const (.bool true)) (y := .tmp 14) (b := true) (v := .bool true) (by kernel_rfl) (by kernel_rfl) (by kernel_rfl)) <|
        .nil _ _) ?_
    refine aw_weak (weak_b (T := [(0, .int .i64 n), (2, .pointer (some ⟨1, 0, none⟩)), (3, .int .i64 0), (15, .bool true)]) (L := [(1, ⟨[.int .i64 0, .int .i64 0], 24, true, 2⟩)]) (by kernel_rfl) (by kernel_rfl) (by kernel_rfl)) ?_
    refine aw_true (o := .tmp 15) (x := sub (bodyOf Try.f27) [true, false, true, false]) (y := sub (bodyOf Try.f27) [true, false, true, true]) (by kernel_rfl) (by kernel_rfl) ?_
    refine aw_plain_seq (r := sub (bodyOf Try.f27) [true, false, true, false, false]) (y := sub (bodyOf Try.f27) [true, false, true, false, true]) (id := 2) (ops := regOps (sub (bodyOf Try.f27) [true, false, true, false, false])) (by kernel_rfl) (by kernel_rfl) (by kernel_rfl) (by kernel_rfl) (
        .cons (d := some 16) (by kernel_rfl) (does_pure (v := .agg #[.int .i64 0, .int .i64 0]) (by kernel_rfl) (fun w => by kernel_rfl) (by kernel_rfl)) <|
        .cons (d := none) (by kernel_rfl) (does_store (t := 24) (x := .tmp 2) (y := .tmp 16) (k := 1) (off := 0) (b := ⟨[.int .i64 0, .int .i64 0], 24, true, 2⟩) (v := .agg #[.int .i64 0, .int .i64 0]) (cells := [.int .i64 0, .int .i64 0]) (by kernel_rfl) (by kernel_rfl) (by kernel_rfl) (by kernel_rfl) rfl (by kernel_rfl) (by kernel_rfl) (by kernel_rfl) (by kernel_rfl)) <|
        .cons (d := some 3) (by kernel_rfl) (does_assign (x := .const (.int .i64 1)) (v := .int .i64 1) (by kernel_rfl) (by kernel_rfl)) <|
        .nil _ _) ?_
    refine aw_weak (weak_b (T := [(0, .int .i64 n), (2, .pointer (some ⟨1, 0, none⟩)), (3, .int .i64 1), (15, .bool true)]) (L := [(1, ⟨[.int .i64 0, .int .i64 0], 24, true, 2⟩)]) (by kernel_rfl) (by kernel_rfl) (by kernel_rfl)) ?_
    refine aw_ret (by kernel_rfl) ?_
    refine then_ret ?_
    exact end_ret (vs := [.agg #[.int .i64 0, .int .i64 0], .int .i64 1]) (by kernel_rfl) (show (.tuple #[.agg #[.int .i64 0, .int .i64 0], .int .i64 1] : Value) = (.tuple #[.agg #[.int .i64 (Sp.ofx n), .int .i64 (Sp.ofy n)], .int .i64 (Sp.ofe n)]) from (congrArg (fun z : List Value => Value.tuple z.toArray) (lcons (congrArg (fun z : List Value => Value.agg z.toArray) (lcons (congrArg (Value.int .i64) (show 0 = (Sp.ofx n) from by (have hz := hofe; first | (simp only [Sp.ofx, Sp.ofy, hz]; done) | (unfold Sp.ofx; rw [if_pos hz, ← hx]) | (unfold Sp.ofy; rw [if_pos hz, ← hy]) | (unfold Sp.ofx; rw [if_neg (by omega)]) | (unfold Sp.ofy; rw [if_neg (by omega)])))) (lcons (congrArg (Value.int .i64) (show 0 = (Sp.ofy n) from by (have hz := hofe; first | (simp only [Sp.ofx, Sp.ofy, hz]; done) | (unfold Sp.ofx; rw [if_pos hz, ← hx]) | (unfold Sp.ofy; rw [if_pos hz, ← hy]) | (unfold Sp.ofx; rw [if_neg (by omega)]) | (unfold Sp.ofy; rw [if_neg (by omega)])))) rfl))) (lcons (congrArg (Value.int .i64) (show 1 = (Sp.ofe n) from by (have hz := hofe; first | (simp only [Sp.ofx, Sp.ofy, hz]; done) | (unfold Sp.ofx; rw [if_pos hz, ← hx]) | (unfold Sp.ofy; rw [if_pos hz, ← hy]) | (unfold Sp.ofx; rw [if_neg (by omega)]) | (unfold Sp.ofy; rw [if_neg (by omega)])))) rfl)))) trivial
  · have h1p : ¬ ((n < 0)) := by first | (simpa using h1) | (have h1q := h1; simp at h1q; omega) | (have h1q := bx2 h1; simp at h1q; omega)
    refine aw_plain_seq (r := sub (bodyOf Try.f27) [true, false, false]) (y := sub (bodyOf Try.f27) [true, false, true]) (id := 1) (ops := regOps (sub (bodyOf Try.f27) [true, false, false])) (by kernel_rfl) (by kernel_rfl) (by kernel_rfl) (by kernel_rfl) (
        .cons (d := some 10) (by kernel_rfl) (does_move (x := .tmp 0) (v := .int .i64 n) (by kernel_rfl) (by kernel_rfl)) <|
        .cons (d := some 11) (by kernel_rfl) (does_bool (b' := false) (does_pure (v := .bool (decide (n < 0))) (by kernel_rfl) (fun w => by kernel_rfl) (by kernel_rfl)) (h1)) <|
        .cons (d := some 12) (by kernel_rfl) (does_move (x := .tmp 11) (v := .bool false) (by kernel_rfl) (by kernel_rfl)) <|
        .cons (d := some 13) (by kernel_rfl) (does_move (x := .tmp 0) (v := .int .i64 n) (by kernel_rfl) (by kernel_rfl)) <|
        .cons (d := some 14) (by kernel_rfl) (does_pure (v := .bool (decide (n ≥ 17592186044416))) (by kernel_rfl) (fun w => by kernel_rfl) (by kernel_rfl)) <|
        .cons (d := some 15) (by kernel_rfl) (does_pick (c := .tmp 12) (x := .const (.bool true)) (y := .tmp 14) (b := false) (v := .bool (decide (n ≥ 17592186044416))) (by kernel_rfl) (by kernel_rfl) (by kernel_rfl)) <|
        .nil _ _) ?_
    refine aw_weak (weak_b (T := [(0, .int .i64 n), (2, .pointer (some ⟨1, 0, none⟩)), (3, .int .i64 0), (15, .bool (decide (n ≥ 17592186044416)))]) (L := [(1, ⟨[.int .i64 0, .int .i64 0], 24, true, 2⟩)]) (by kernel_rfl) (by kernel_rfl) (by kernel_rfl)) ?_
    refine aw_cond (o := .tmp 15) (b := decide (n ≥ 17592186044416)) (x := sub (bodyOf Try.f27) [true, false, true, false]) (y := sub (bodyOf Try.f27) [true, false, true, true]) (by kernel_rfl) (by kernel_rfl) (fun h2 => ?_) (fun h2 => ?_)
    · have h2p : ((n ≥ 17592186044416)) := by first | (simpa using h2) | (have h2q := h2; simp at h2q; omega) | (have h2q := bx1 h2; simp at h2q; omega)
      have hofe : Sp.ofe n = 1 := by unfold Sp.ofe; rw [if_pos (by omega)]
      refine aw_plain_seq (r := sub (bodyOf Try.f27) [true, false, true, false, false]) (y := sub (bodyOf Try.f27) [true, false, true, false, true]) (id := 2) (ops := regOps (sub (bodyOf Try.f27) [true, false, true, false, false])) (by kernel_rfl) (by kernel_rfl) (by kernel_rfl) (by kernel_rfl) (
          .cons (d := some 16) (by kernel_rfl) (does_pure (v := .agg #[.int .i64 0, .int .i64 0]) (by kernel_rfl) (fun w => by kernel_rfl) (by kernel_rfl)) <|
          .cons (d := none) (by kernel_rfl) (does_store (t := 24) (x := .tmp 2) (y := .tmp 16) (k := 1) (off := 0) (b := ⟨[.int .i64 0, .int .i64 0], 24, true, 2⟩) (v := .agg #[.int .i64 0, .int .i64 0]) (cells := [.int .i64 0, .int .i64 0]) (by kernel_rfl) (by kernel_rfl) (by kernel_rfl) (by kernel_rfl) rfl (by kernel_rfl) (by kernel_rfl) (by kernel_rfl) (by kernel_rfl)) <|
          .cons (d := some 3) (by kernel_rfl) (does_assign (x := .const (.int .i64 1)) (v := .int .i64 1) (by kernel_rfl) (by kernel_rfl)) <|
          .nil _ _) ?_
      refine aw_weak (weak_b (T := [(0, .int .i64 n), (2, .pointer (some ⟨1, 0, none⟩)), (3, .int .i64 1), (15, .bool (decide (n ≥ 17592186044416)))]) (L := [(1, ⟨[.int .i64 0, .int .i64 0], 24, true, 2⟩)]) (by kernel_rfl) (by kernel_rfl) (by kernel_rfl)) ?_
      refine aw_ret (by kernel_rfl) ?_
      refine then_ret ?_
      exact end_ret (vs := [.agg #[.int .i64 0, .int .i64 0], .int .i64 1]) (by kernel_rfl) (show (.tuple #[.agg #[.int .i64 0, .int .i64 0], .int .i64 1] : Value) = (.tuple #[.agg #[.int .i64 (Sp.ofx n), .int .i64 (Sp.ofy n)], .int .i64 (Sp.ofe n)]) from (congrArg (fun z : List Value => Value.tuple z.toArray) (lcons (congrArg (fun z : List Value => Value.agg z.toArray) (lcons (congrArg (Value.int .i64) (show 0 = (Sp.ofx n) from by (have hz := hofe; first | (simp only [Sp.ofx, Sp.ofy, hz]; done) | (unfold Sp.ofx; rw [if_pos hz, ← hx]) | (unfold Sp.ofy; rw [if_pos hz, ← hy]) | (unfold Sp.ofx; rw [if_neg (by omega)]) | (unfold Sp.ofy; rw [if_neg (by omega)])))) (lcons (congrArg (Value.int .i64) (show 0 = (Sp.ofy n) from by (have hz := hofe; first | (simp only [Sp.ofx, Sp.ofy, hz]; done) | (unfold Sp.ofx; rw [if_pos hz, ← hx]) | (unfold Sp.ofy; rw [if_pos hz, ← hy]) | (unfold Sp.ofx; rw [if_neg (by omega)]) | (unfold Sp.ofy; rw [if_neg (by omega)])))) rfl))) (lcons (congrArg (Value.int .i64) (show 1 = (Sp.ofe n) from by (have hz := hofe; first | (simp only [Sp.ofx, Sp.ofy, hz]; done) | (unfold Sp.ofx; rw [if_pos hz, ← hx]) | (unfold Sp.ofy; rw [if_pos hz, ← hy]) | (unfold Sp.ofx; rw [if_neg (by omega)]) | (unfold Sp.ofy; rw [if_neg (by omega)])))) rfl)))) trivial
    · have h2p : ¬ ((n ≥ 17592186044416)) := by first | (simpa using h2) | (have h2q := h2; simp at h2q; omega) | (have h2q := bx2 h2; simp at h2q; omega)
      refine aw_skip (by kernel_rfl) ?_
      refine then_normal ?_
      refine aw_plain_seq (r := sub (bodyOf Try.f27) [true, true, false]) (y := sub (bodyOf Try.f27) [true, true, true]) (id := 3) (ops := regOps (sub (bodyOf Try.f27) [true, true, false])) (by kernel_rfl) (by kernel_rfl) (by kernel_rfl) (by kernel_rfl) (
          .cons (d := some 4) (by kernel_rfl) (does_assign (x := .const (.int .i64 0)) (v := .int .i64 0) (by kernel_rfl) (by kernel_rfl)) <|
          .cons (d := some 5) (by kernel_rfl) (does_assign (x := .const (.int .i64 0)) (v := .int .i64 0) (by kernel_rfl) (by kernel_rfl)) <|
          .nil _ _) ?_
      refine aw_weak (weak_b (T := [(0, .int .i64 n), (2, .pointer (some ⟨1, 0, none⟩)), (3, .int .i64 0), (4, .int .i64 0), (5, .int .i64 0), (15, .bool (decide (n ≥ 17592186044416)))]) (L := [(1, ⟨[.int .i64 0, .int .i64 0], 24, true, 2⟩)]) (by kernel_rfl) (by kernel_rfl) (by kernel_rfl)) ?_
      refine aw_seq (x := sub (bodyOf Try.f27) [true, true, true, false]) (y := sub (bodyOf Try.f27) [true, true, true, true]) (by kernel_rfl) ?_
      refine aw_plain_seq (r := sub (bodyOf Try.f27) [true, true, true, false, false]) (y := sub (bodyOf Try.f27) [true, true, true, false, true]) (id := 4) (ops := regOps (sub (bodyOf Try.f27) [true, true, true, false, false])) (by kernel_rfl) (by kernel_rfl) (by kernel_rfl) (by kernel_rfl) (
          .cons (d := some 6) (by kernel_rfl) (does_assign (x := .const (.int .i64 1)) (v := .int .i64 1) (by kernel_rfl) (by kernel_rfl)) <|
          .nil _ _) ?_
      refine aw_weak (weak_b (T := [(0, .int .i64 n), (2, .pointer (some ⟨1, 0, none⟩)), (3, .int .i64 0), (4, .int .i64 0), (5, .int .i64 0), (6, .int .i64 1), (15, .bool (decide (n ≥ 17592186044416)))]) (L := [(1, ⟨[.int .i64 0, .int .i64 0], 24, true, 2⟩)]) (by kernel_rfl) (by kernel_rfl) (by kernel_rfl)) ?_
      refine aw_block (id := 0) (x := sub (bodyOf Try.f27) [true, true, true, false, true, true]) (by kernel_rfl) ?_
      refine aw_rounds (x := sub (bodyOf Try.f27) [true, true, true, false, true, true, true]) (by kernel_rfl) ?_
      refine al_weak (weak_b (T := [(0, .int .i64 n), (2, .pointer (some ⟨1, 0, none⟩)), (3, .int .i64 0), (4, .int .i64 0), (5, .int .i64 0), (6, .int .i64 (Sp.pw 0)), (15, .bool (decide (n ≥ 17592186044416)))]) (L := [(1, ⟨[.int .i64 0, .int .i64 0], 24, true, 2⟩)]) (by kernel_rfl) (by kernel_rfl) (by kernel_rfl)) ?_
      refine al_ind (fun i : Nat × Int × Int × Int => (fun (k : Nat) (m : Int) (x : Int) (y : Int) => mkSt 0 [(0, .int .i64 m), (2, .pointer (some ⟨1, 0, none⟩)), (3, .int .i64 0), (4, .int .i64 x), (5, .int .i64 y), (6, .int .i64 (Sp.pw k)), (15, .bool (decide (n ≥ 17592186044416)))] [(1, ⟨[.int .i64 0, .int .i64 0], 24, true, 2⟩)]) i.1 i.2.1 i.2.2.1 i.2.2.2) (fun i : Nat × Int × Int × Int => (fun (k : Nat) (m : Int) (x : Int) (y : Int) => (k ≤ 22) ∧ (m = n / Sp.p4 k) ∧ (0 ≤ m ∧ m ≤ n) ∧ (x = (Sp.pos k n).1) ∧ (y = (Sp.pos k n).2)) i.1 i.2.1 i.2.2.1 i.2.2.2) (fun i : Nat × Int × Int × Int => (fun (k : Nat) (m : Int) (x : Int) (y : Int) => 22 - k) i.1 i.2.1 i.2.2.1 i.2.2.2) (fun i hi1 ih1 => ?_) (0, n, 0, 0) (show (0 ≤ 22) ∧ (n = n / Sp.p4 0) ∧ (0 ≤ n ∧ n ≤ n) ∧ (0 = (Sp.pos 0 n).1) ∧ (0 = (Sp.pos 0 n).2) from ⟨by omega, by simp [Sp.p4], by omega, by rfl, by rfl⟩)
      obtain ⟨k, m, x, y⟩ := i
      have hi1' : (k ≤ 22) ∧ (m = n / Sp.p4 k) ∧ (0 ≤ m ∧ m ≤ n) ∧ (x = (Sp.pos k n).1) ∧ (y = (Sp.pos k n).2) := hi1
      obtain ⟨hk, hm, h0, hx, hy⟩ := hi1'
      show AL _ _ _ (mkSt 0 [(0, .int .i64 m), (2, .pointer (some ⟨1, 0, none⟩)), (3, .int .i64 0), (4, .int .i64 x), (5, .int .i64 y), (6, .int .i64 (Sp.pw k)), (15, .bool (decide (n ≥ 17592186044416)))] [(1, ⟨[.int .i64 0, .int .i64 0], 24, true, 2⟩)]) _
      refine al_round ?_
      refine aw_seq (x := sub (bodyOf Try.f27) [true, true, true, false, true, true, true, false]) (y := sub (bodyOf Try.f27) [true, true, true, false, true, true, true, true]) (by kernel_rfl) ?_
      refine aw_plain_seq (r := sub (bodyOf Try.f27) [true, true, true, false, true, true, true, false, false]) (y := sub (bodyOf Try.f27) [true, true, true, false, true, true, true, false, true]) (id := 5) (ops := regOps (sub (bodyOf Try.f27) [true, true, true, false, true, true, true, false, false])) (by kernel_rfl) (by kernel_rfl) (by kernel_rfl) (by kernel_rfl) (
          .cons (d := some 17) (by kernel_rfl) (does_move (x := .tmp 6) (v := .int .i64 (Sp.pw k)) (by kernel_rfl) (by kernel_rfl)) <|
          .cons (d := some 18) (by kernel_rfl) (does_pure (v := .bool (decide ((Sp.pw k) < 4194304))) (by kernel_rfl) (fun w => by kernel_rfl) (by kernel_rfl)) <|
          .nil _ _) ?_
      refine aw_weak (weak_b (T := [(0, .int .i64 m), (2, .pointer (some ⟨1, 0, none⟩)), (3, .int .i64 0), (4, .int .i64 x), (5, .int .i64 y), (6, .int .i64 (Sp.pw k)), (15, .bool (decide (n ≥ 17592186044416))), (18, .bool (decide ((Sp.pw k) < 4194304)))]) (L := [(1, ⟨[.int .i64 0, .int .i64 0], 24, true, 2⟩)]) (by kernel_rfl) (by kernel_rfl) (by kernel_rfl)) ?_
      refine aw_cond (o := .tmp 18) (b := decide ((Sp.pw k) < 4194304)) (x := sub (bodyOf Try.f27) [true, true, true, false, true, true, true, false, true, false]) (y := sub (bodyOf Try.f27) [true, true, true, false, true, true, true, false, true, true]) (by kernel_rfl) (by kernel_rfl) (fun h3 => ?_) (fun h3 => ?_)
      · have h3p : (((Sp.pw k) < 4194304)) := by first | (simpa using h3) | (have h3q := h3; simp at h3q; omega) | (have h3q := bx1 h3; simp at h3q; omega)
        have hw := Sp.pw_lt hk
        have hr := Sp.pos_round (k := k) (n := n) hm; rw [← hx, ← hy] at hr; have hb := Sp.pos_bd n k; rw [← hx, ← hy] at hb; have hb1 := Sp.pos_bd n (k + 1); rw [Sp.pw_succ] at hb1
        have k22 := hw.1 h3p
        have r1 : 0 ≤ Sp.pw k * (m / 2 % 2) ∧ Sp.pw k * (m / 2 % 2) ≤ Sp.pw k := by rcases (show m / 2 % 2 = 0 ∨ m / 2 % 2 = 1 by omega) with q | q <;> rw [q] <;> omega
        have r2 : 0 ≤ Sp.pw k * ((m + m / 2) % 2) ∧ Sp.pw k * ((m + m / 2) % 2) ≤ Sp.pw k := by rcases (show (m + m / 2) % 2 = 0 ∨ (m + m / 2) % 2 = 1 by omega) with q | q <;> rw [q] <;> omega
        refine aw_skip (by kernel_rfl) ?_
        refine then_normal ?_
        refine aw_seq (x := sub (bodyOf Try.f27) [true, true, true, false, true, true, true, true, false]) (y := sub (bodyOf Try.f27) [true, true, true, false, true, true, true, true, true]) (by kernel_rfl) ?_
        refine aw_block (id := 1) (x := sub (bodyOf Try.f27) [true, true, true, false, true, true, true, true, false, true]) (by kernel_rfl) ?_
        refine aw_plain_seq (r := sub (bodyOf Try.f27) [true, true, true, false, true, true, true, true, false, true, false]) (y := sub (bodyOf Try.f27) [true, true, true, false, true, true, true, true, false, true, true]) (id := 7) (ops := regOps (sub (bodyOf Try.f27) [true, true, true, false, true, true, true, true, false, true, false])) (by kernel_rfl) (by kernel_rfl) (by kernel_rfl) (by kernel_rfl) (
            .cons (d := some 21) (by kernel_rfl) (does_move (x := .tmp 0) (v := .int .i64 m) (by kernel_rfl) (by kernel_rfl)) <|
            .cons (d := some 22) (by kernel_rfl) (does_int (n' := m / 2) (does_pure (v := .int .i64 (IntKind.wrap .i64 (Int.tdiv m 2))) (by kernel_rfl) (fun w => by kernel_rfl) (by kernel_rfl)) (wquo (by omega) (by omega) (by omega))) <|
            .cons (d := some 23) (by kernel_rfl) (does_int (n' := m / 2 % 2) (does_pure (v := .int .i64 (Int.tmod (m / 2) 2)) (by kernel_rfl) (fun w => by kernel_rfl) (by kernel_rfl)) (wrem (by omega))) <|
            .cons (d := some 7) (by kernel_rfl) (does_assign (x := .tmp 23) (v := .int .i64 (m / 2 % 2)) (by kernel_rfl) (by kernel_rfl)) <|
            .nil _ _) ?_
        refine aw_weak (weak_b (T := [(0, .int .i64 m), (2, .pointer (some ⟨1, 0, none⟩)), (3, .int .i64 0), (4, .int .i64 x), (5, .int .i64 y), (6, .int .i64 (Sp.pw k)), (7, .int .i64 (m / 2 % 2)), (15, .bool (decide (n ≥ 17592186044416))), (18, .bool (decide ((Sp.pw k) < 4194304)))]) (L := [(1, ⟨[.int .i64 0, .int .i64 0], 24, true, 2⟩)]) (by kernel_rfl) (by kernel_rfl) (by kernel_rfl)) ?_
        refine aw_plain_seq (r := sub (bodyOf Try.f27) [true, true, true, false, true, true, true, true, false, true, true, false]) (y := sub (bodyOf Try.f27) [true, true, true, false, true, true, true, true, false, true, true, true]) (id := 8) (ops := regOps (sub (bodyOf Try.f27) [true, true, true, false, true, true, true, true, false, true, true, false])) (by kernel_rfl) (by kernel_rfl) (by kernel_rfl) (by kernel_rfl) (
            .cons (d := some 24) (by kernel_rfl) (does_move (x := .tmp 0) (v := .int .i64 m) (by kernel_rfl) (by kernel_rfl)) <|
            .cons (d := some 25) (by kernel_rfl) (does_move (x := .tmp 7) (v := .int .i64 (m / 2 % 2)) (by kernel_rfl) (by kernel_rfl)) <|
            .cons (d := some 26) (by kernel_rfl) (does_pure (v := .int .i64 (IntKind.wrap .i64 ((BitVec.ofInt 64 m ^^^ BitVec.ofInt 64 (m / 2 % 2)).toNat : Int))) (by kernel_rfl) (fun w => by kernel_rfl) (by kernel_rfl)) <|
            .cons (d := some 27) (by kernel_rfl) (does_int (n' := (m + m / 2) % 2) (does_pure (v := .int .i64 (Int.tmod (IntKind.wrap .i64 ((BitVec.ofInt 64 m ^^^ BitVec.ofInt 64 (m / 2 % 2)).toNat : Int)) 2)) (by kernel_rfl) (fun w => by kernel_rfl) (by kernel_rfl)) (by rw [xor_par (by omega) (by omega) (by omega)]; omega)) <|
            .cons (d := some 8) (by kernel_rfl) (does_assign (x := .tmp 27) (v := .int .i64 ((m + m / 2) % 2)) (by kernel_rfl) (by kernel_rfl)) <|
            .nil _ _) ?_
        refine aw_weak (weak_b (T := [(0, .int .i64 m), (2, .pointer (some ⟨1, 0, none⟩)), (3, .int .i64 0), (4, .int .i64 x), (5, .int .i64 y), (6, .int .i64 (Sp.pw k)), (7, .int .i64 (m / 2 % 2)), (8, .int .i64 ((m + m / 2) % 2)), (15, .bool (decide (n ≥ 17592186044416))), (18, .bool (decide ((Sp.pw k) < 4194304)))]) (L := [(1, ⟨[.int .i64 0, .int .i64 0], 24, true, 2⟩)]) (by kernel_rfl) (by kernel_rfl) (by kernel_rfl)) ?_
        refine aw_plain_seq (r := sub (bodyOf Try.f27) [true, true, true, false, true, true, true, true, false, true, true, true, false]) (y := sub (bodyOf Try.f27) [true, true, true, false, true, true, true, true, false, true, true, true, true]) (id := 9) (ops := regOps (sub (bodyOf Try.f27) [true, true, true, false, true, true, true, true, false, true, true, true, false])) (by kernel_rfl) (by kernel_rfl) (by kernel_rfl) (by kernel_rfl) (
            .cons (d := some 29) (by kernel_rfl) (does_move (x := .tmp 4) (v := .int .i64 x) (by kernel_rfl) (by kernel_rfl)) <|
            .cons (d := some 30) (by kernel_rfl) (does_move (x := .tmp 5) (v := .int .i64 y) (by kernel_rfl) (by kernel_rfl)) <|
            .cons (d := some 31) (by kernel_rfl) (does_move (x := .tmp 6) (v := .int .i64 (Sp.pw k)) (by kernel_rfl) (by kernel_rfl)) <|
            .cons (d := some 32) (by kernel_rfl) (does_move (x := .tmp 7) (v := .int .i64 (m / 2 % 2)) (by kernel_rfl) (by kernel_rfl)) <|
            .cons (d := some 33) (by kernel_rfl) (does_move (x := .tmp 8) (v := .int .i64 ((m + m / 2) % 2)) (by kernel_rfl) (by kernel_rfl)) <|
            .cons (d := some 34) (by kernel_rfl) (does_call0 (x := .func 75) (ars := #[.tmp 29, .tmp 30, .tmp 31, .tmp 32, .tmp 33]) (ats := #[3, 3, 3, 3, 3]) (g := 75) (vs := [.int .i64 x, .int .i64 y, .int .i64 (Sp.pw k), .int .i64 (m / 2 % 2), .int .i64 ((m + m / 2) % 2)]) (v := .tuple #[.int .i64 (Sp.tx x y (Sp.pw k) (m / 2 % 2) ((m + m / 2) % 2)), .int .i64 (Sp.ty x y (Sp.pw k) (m / 2 % 2) ((m + m / 2) % 2))]) (by kernel_rfl) (by kernel_rfl) (by kernel_rfl) (by kernel_rfl) (turned_ok x y (Sp.pw k) (m / 2 % 2) ((m + m / 2) % 2) (by omega) (by omega) (by omega)) (by kernel_rfl) (by kernel_rfl)) <|
            .cons (d := some 28) (by kernel_rfl) (does_move (x := .tmp 34) (v := .tuple #[.int .i64 (Sp.tx x y (Sp.pw k) (m / 2 % 2) ((m + m / 2) % 2)), .int .i64 (Sp.ty x y (Sp.pw k) (m / 2 % 2) ((m + m / 2) % 2))]) (by kernel_rfl) (by kernel_rfl)) <|
            .cons (d := some 35) (by kernel_rfl) (does_extract (x := .tmp 28) (n := 0) (vs := #[.int .i64 (Sp.tx x y (Sp.pw k) (m / 2 % 2) ((m + m / 2) % 2)), .int .i64 (Sp.ty x y (Sp.pw k) (m / 2 % 2) ((m + m / 2) % 2))]) (v := .int .i64 (Sp.tx x y (Sp.pw k) (m / 2 % 2) ((m + m / 2) % 2))) (by kernel_rfl) (by kernel_rfl) (by kernel_rfl)) <|
            .cons (d := some 36) (by kernel_rfl) (does_extract (x := .tmp 28) (n := 1) (vs := #[.int .i64 (Sp.tx x y (Sp.pw k) (m / 2 % 2) ((m + m / 2) % 2)), .int .i64 (Sp.ty x y (Sp.pw k) (m / 2 % 2) ((m + m / 2) % 2))]) (v := .int .i64 (Sp.ty x y (Sp.pw k) (m / 2 % 2) ((m + m / 2) % 2))) (by kernel_rfl) (by kernel_rfl) (by kernel_rfl)) <|
            .cons (d := some 4) (by kernel_rfl) (does_assign (x := .tmp 35) (v := .int .i64 (Sp.tx x y (Sp.pw k) (m / 2 % 2) ((m + m / 2) % 2))) (by kernel_rfl) (by kernel_rfl)) <|
            .cons (d := some 5) (by kernel_rfl) (does_assign (x := .tmp 36) (v := .int .i64 (Sp.ty x y (Sp.pw k) (m / 2 % 2) ((m + m / 2) % 2))) (by kernel_rfl) (by kernel_rfl)) <|
            .nil _ _) ?_
        refine aw_weak (weak_b (T := [(0, .int .i64 m), (2, .pointer (some ⟨1, 0, none⟩)), (3, .int .i64 0), (4, .int .i64 (Sp.tx x y (Sp.pw k) (m / 2 % 2) ((m + m / 2) % 2))), (5, .int .i64 (Sp.ty x y (Sp.pw k) (m / 2 % 2) ((m + m / 2) % 2))), (6, .int .i64 (Sp.pw k)), (7, .int .i64 (m / 2 % 2)), (8, .int .i64 ((m + m / 2) % 2)), (15, .bool (decide (n ≥ 17592186044416))), (18, .bool (decide ((Sp.pw k) < 4194304)))]) (L := [(1, ⟨[.int .i64 0, .int .i64 0], 24, true, 2⟩)]) (by kernel_rfl) (by kernel_rfl) (by kernel_rfl)) ?_
        refine aw_plain_seq (r := sub (bodyOf Try.f27) [true, true, true, false, true, true, true, true, false, true, true, true, true, false]) (y := sub (bodyOf Try.f27) [true, true, true, false, true, true, true, true, false, true, true, true, true, true]) (id := 10) (ops := regOps (sub (bodyOf Try.f27) [true, true, true, false, true, true, true, true, false, true, true, true, true, false])) (by kernel_rfl) (by kernel_rfl) (by kernel_rfl) (by kernel_rfl) (
            .cons (d := some 37) (by kernel_rfl) (does_move (x := .tmp 4) (v := .int .i64 (Sp.tx x y (Sp.pw k) (m / 2 % 2) ((m + m / 2) % 2))) (by kernel_rfl) (by kernel_rfl)) <|
            .cons (d := some 38) (by kernel_rfl) (does_move (x := .tmp 6) (v := .int .i64 (Sp.pw k)) (by kernel_rfl) (by kernel_rfl)) <|
            .cons (d := some 39) (by kernel_rfl) (does_move (x := .tmp 7) (v := .int .i64 (m / 2 % 2)) (by kernel_rfl) (by kernel_rfl)) <|
            .cons (d := some 40) (by kernel_rfl) (does_int (n' := Sp.pw k * (m / 2 % 2)) (does_pure (v := .int .i64 (IntKind.wrap .i64 ((Sp.pw k) * (m / 2 % 2)))) (by kernel_rfl) (fun w => by kernel_rfl) (by kernel_rfl)) (wrap_i64 (by omega) (by omega))) <|
            .cons (d := some 41) (by kernel_rfl) (does_int (n' := (Sp.tx x y (Sp.pw k) (m / 2 % 2) ((m + m / 2) % 2)) + (Sp.pw k * (m / 2 % 2))) (does_pure (v := .int .i64 (IntKind.wrap .i64 ((Sp.tx x y (Sp.pw k) (m / 2 % 2) ((m + m / 2) % 2)) + (Sp.pw k * (m / 2 % 2))))) (by kernel_rfl) (fun w => by kernel_rfl) (by kernel_rfl)) (wrap_i64 (by omega) (by omega))) <|
            .cons (d := some 42) (by kernel_rfl) (does_move (x := .tmp 5) (v := .int .i64 (Sp.ty x y (Sp.pw k) (m / 2 % 2) ((m + m / 2) % 2))) (by kernel_rfl) (by kernel_rfl)) <|
            .cons (d := some 43) (by kernel_rfl) (does_move (x := .tmp 6) (v := .int .i64 (Sp.pw k)) (by kernel_rfl) (by kernel_rfl)) <|
            .cons (d := some 44) (by kernel_rfl) (does_move (x := .tmp 8) (v := .int .i64 ((m + m / 2) % 2)) (by kernel_rfl) (by kernel_rfl)) <|
            .cons (d := some 45) (by kernel_rfl) (does_int (n' := Sp.pw k * ((m + m / 2) % 2)) (does_pure (v := .int .i64 (IntKind.wrap .i64 ((Sp.pw k) * ((m + m / 2) % 2)))) (by kernel_rfl) (fun w => by kernel_rfl) (by kernel_rfl)) (wrap_i64 (by omega) (by omega))) <|
            .cons (d := some 46) (by kernel_rfl) (does_int (n' := (Sp.ty x y (Sp.pw k) (m / 2 % 2) ((m + m / 2) % 2)) + (Sp.pw k * ((m + m / 2) % 2))) (does_pure (v := .int .i64 (IntKind.wrap .i64 ((Sp.ty x y (Sp.pw k) (m / 2 % 2) ((m + m / 2) % 2)) + (Sp.pw k * ((m + m / 2) % 2))))) (by kernel_rfl) (fun w => by kernel_rfl) (by kernel_rfl)) (wrap_i64 (by omega) (by omega))) <|
            .cons (d := some 4) (by kernel_rfl) (does_assign (x := .tmp 41) (v := .int .i64 ((Sp.tx x y (Sp.pw k) (m / 2 % 2) ((m + m / 2) % 2)) + (Sp.pw k * (m / 2 % 2)))) (by kernel_rfl) (by kernel_rfl)) <|
            .cons (d := some 5) (by kernel_rfl) (does_assign (x := .tmp 46) (v := .int .i64 ((Sp.ty x y (Sp.pw k) (m / 2 % 2) ((m + m / 2) % 2)) + (Sp.pw k * ((m + m / 2) % 2)))) (by kernel_rfl) (by kernel_rfl)) <|
            .nil _ _) ?_
        refine aw_weak (weak_b (T := [(0, .int .i64 m), (2, .pointer (some ⟨1, 0, none⟩)), (3, .int .i64 0), (4, .int .i64 ((Sp.tx x y (Sp.pw k) (m / 2 % 2) ((m + m / 2) % 2)) + (Sp.pw k * (m / 2 % 2)))), (5, .int .i64 ((Sp.ty x y (Sp.pw k) (m / 2 % 2) ((m + m / 2) % 2)) + (Sp.pw k * ((m + m / 2) % 2)))), (6, .int .i64 (Sp.pw k)), (7, .int .i64 (m / 2 % 2)), (8, .int .i64 ((m + m / 2) % 2)), (15, .bool (decide (n ≥ 17592186044416))), (18, .bool (decide ((Sp.pw k) < 4194304)))]) (L := [(1, ⟨[.int .i64 0, .int .i64 0], 24, true, 2⟩)]) (by kernel_rfl) (by kernel_rfl) (by kernel_rfl)) ?_
        refine aw_plain (id := 11) (ops := regOps (sub (bodyOf Try.f27) [true, true, true, false, true, true, true, true, false, true, true, true, true, true])) (by kernel_rfl) (by kernel_rfl) (by kernel_rfl) (
            .cons (d := some 47) (by kernel_rfl) (does_move (x := .tmp 0) (v := .int .i64 m) (by kernel_rfl) (by kernel_rfl)) <|
            .cons (d := some 48) (by kernel_rfl) (does_int (n' := m / 4) (does_pure (v := .int .i64 (IntKind.wrap .i64 (Int.tdiv m 4))) (by kernel_rfl) (fun w => by kernel_rfl) (by kernel_rfl)) (wquo (by omega) (by omega) (by omega))) <|
            .cons (d := some 0) (by kernel_rfl) (does_assign (x := .tmp 48) (v := .int .i64 (m / 4)) (by kernel_rfl) (by kernel_rfl)) <|
            .nil _ _) ?_
        refine block_normal ?_
        refine then_normal ?_
        refine aw_plain (id := 6) (ops := regOps (sub (bodyOf Try.f27) [true, true, true, false, true, true, true, true, true])) (by kernel_rfl) (by kernel_rfl) (by kernel_rfl) (
            .cons (d := some 19) (by kernel_rfl) (does_move (x := .tmp 6) (v := .int .i64 (Sp.pw k)) (by kernel_rfl) (by kernel_rfl)) <|
            .cons (d := some 20) (by kernel_rfl) (does_int (n' := Sp.pw (k + 1)) (does_pure (v := .int .i64 (IntKind.wrap .i64 ((Sp.pw k) * 2))) (by kernel_rfl) (fun w => by kernel_rfl) (by kernel_rfl)) (by rw [wrap_i64 (by omega) (by omega), Sp.pw_succ]; omega)) <|
            .cons (d := some 6) (by kernel_rfl) (does_assign (x := .tmp 20) (v := .int .i64 (Sp.pw (k + 1))) (by kernel_rfl) (by kernel_rfl)) <|
            .nil _ _) ?_
        refine then_normal ?_
        refine al_weak (weak_b (T := [(0, .int .i64 (m / 4)), (2, .pointer (some ⟨1, 0, none⟩)), (3, .int .i64 0), (4, .int .i64 ((Sp.tx x y (Sp.pw k) (m / 2 % 2) ((m + m / 2) % 2)) + (Sp.pw k * (m / 2 % 2)))), (5, .int .i64 ((Sp.ty x y (Sp.pw k) (m / 2 % 2) ((m + m / 2) % 2)) + (Sp.pw k * ((m + m / 2) % 2)))), (6, .int .i64 (Sp.pw (k + 1))), (15, .bool (decide (n ≥ 17592186044416)))]) (L := [(1, ⟨[.int .i64 0, .int .i64 0], 24, true, 2⟩)]) (by kernel_rfl) (by kernel_rfl) (by kernel_rfl)) ?_
        exact ih1 ((k + 1), (m / 4), ((Sp.tx x y (Sp.pw k) (m / 2 % 2) ((m + m / 2) % 2)) + (Sp.pw k * (m / 2 % 2))), ((Sp.ty x y (Sp.pw k) (m / 2 % 2) ((m + m / 2) % 2)) + (Sp.pw k * ((m + m / 2) % 2)))) (show ((k + 1) ≤ 22) ∧ ((m / 4) = n / Sp.p4 (k + 1)) ∧ (0 ≤ (m / 4) ∧ (m / 4) ≤ n) ∧ (((Sp.tx x y (Sp.pw k) (m / 2 % 2) ((m + m / 2) % 2)) + (Sp.pw k * (m / 2 % 2))) = (Sp.pos (k + 1) n).1) ∧ (((Sp.ty x y (Sp.pw k) (m / 2 % 2) ((m + m / 2) % 2)) + (Sp.pw k * ((m + m / 2) % 2))) = (Sp.pos (k + 1) n).2) from ⟨by omega, by exact hr.2.2, by omega, by exact hr.1, by exact hr.2.1⟩) (show 22 - (k + 1) < 22 - k from by omega)
      · have h3p : ¬ (((Sp.pw k) < 4194304)) := by first | (simpa using h3) | (have h3q := h3; simp at h3q; omega) | (have h3q := bx2 h3; simp at h3q; omega)
        have hw := Sp.pw_lt hk
        have hr := Sp.pos_round (k := k) (n := n) hm; rw [← hx, ← hy] at hr; have hb := Sp.pos_bd n k; rw [← hx, ← hy] at hb; have hb1 := Sp.pos_bd n (k + 1); rw [Sp.pw_succ] at hb1
        have k22 := hw.2.1 h3p; rw [k22] at hx hy
        refine aw_exit (id := 0) (by kernel_rfl) ?_
        refine then_exit ?_
        refine then_exit ?_
        refine block_exit ?_
        refine then_normal ?_
        refine aw_plain_seq (r := sub (bodyOf Try.f27) [true, true, true, true, false]) (y := sub (bodyOf Try.f27) [true, true, true, true, true]) (id := 12) (ops := regOps (sub (bodyOf Try.f27) [true, true, true, true, false])) (by kernel_rfl) (by kernel_rfl) (by kernel_rfl) (by kernel_rfl) (
            .cons (d := some 49) (by kernel_rfl) (does_move (x := .tmp 4) (v := .int .i64 x) (by kernel_rfl) (by kernel_rfl)) <|
            .cons (d := some 50) (by kernel_rfl) (does_int (n' := x - 1048576) (does_pure (v := .int .i64 (IntKind.wrap .i64 (x - 1048576))) (by kernel_rfl) (fun w => by kernel_rfl) (by kernel_rfl)) (wrap_i64 (by omega) (by omega))) <|
            .cons (d := some 51) (by kernel_rfl) (does_move (x := .tmp 5) (v := .int .i64 y) (by kernel_rfl) (by kernel_rfl)) <|
            .cons (d := some 52) (by kernel_rfl) (does_int (n' := y - 1048576) (does_pure (v := .int .i64 (IntKind.wrap .i64 (y - 1048576))) (by kernel_rfl) (fun w => by kernel_rfl) (by kernel_rfl)) (wrap_i64 (by omega) (by omega))) <|
            .cons (d := some 53) (by kernel_rfl) (does_pure (v := .agg #[.int .i64 (x - 1048576), .int .i64 (y - 1048576)]) (by kernel_rfl) (fun w => by kernel_rfl) (by kernel_rfl)) <|
            .cons (d := some 9) (by kernel_rfl) (does_alloc (t := 24) (k := 2) (v := .agg #[.int .i64 0, .int .i64 0]) (cells := [.int .i64 0, .int .i64 0]) (by kernel_rfl) (by kernel_rfl) (by kernel_rfl) (by kernel_rfl) (by kernel_rfl)) <|
            .cons (d := none) (by kernel_rfl) (does_store (t := 24) (x := .tmp 9) (y := .tmp 53) (k := 2) (off := 0) (b := ⟨[.int .i64 0, .int .i64 0], 24, true, 2⟩) (v := .agg #[.int .i64 (x - 1048576), .int .i64 (y - 1048576)]) (cells := [.int .i64 (x - 1048576), .int .i64 (y - 1048576)]) (by kernel_rfl) (by kernel_rfl) (by kernel_rfl) (by kernel_rfl) rfl (by kernel_rfl) (by kernel_rfl) (by kernel_rfl) (by kernel_rfl)) <|
            .nil _ _) ?_
        refine aw_weak (weak_b (T := [(0, .int .i64 m), (2, .pointer (some ⟨1, 0, none⟩)), (3, .int .i64 0), (4, .int .i64 x), (5, .int .i64 y), (6, .int .i64 (Sp.pw k)), (9, .pointer (some ⟨2, 0, none⟩)), (15, .bool (decide (n ≥ 17592186044416))), (18, .bool (decide ((Sp.pw k) < 4194304)))]) (L := [(1, ⟨[.int .i64 0, .int .i64 0], 24, true, 2⟩), (2, ⟨[.int .i64 (x - 1048576), .int .i64 (y - 1048576)], 24, true, 2⟩)]) (by kernel_rfl) (by kernel_rfl) (by kernel_rfl)) ?_
        refine aw_seq (x := sub (bodyOf Try.f27) [true, true, true, true, true, false]) (y := sub (bodyOf Try.f27) [true, true, true, true, true, true]) (by kernel_rfl) ?_
        refine aw_plain_seq (r := sub (bodyOf Try.f27) [true, true, true, true, true, false, false]) (y := sub (bodyOf Try.f27) [true, true, true, true, true, false, true]) (id := 13) (ops := regOps (sub (bodyOf Try.f27) [true, true, true, true, true, false, false])) (by kernel_rfl) (by kernel_rfl) (by kernel_rfl) (by kernel_rfl) (
            .cons (d := some 54) (by kernel_rfl) (does_load (t := 24) (x := .tmp 9) (k := 2) (off := 0) (b := ⟨[.int .i64 (x - 1048576), .int .i64 (y - 1048576)], 24, true, 2⟩) (v := .agg #[.int .i64 (x - 1048576), .int .i64 (y - 1048576)]) (by kernel_rfl) (by kernel_rfl) (by kernel_rfl) (by kernel_rfl)) <|
            .cons (d := some 55) (by kernel_rfl) (does_call0 (x := .func 30) (ars := #[.tmp 54]) (ats := #[24]) (g := 30) (vs := [.agg #[.int .i64 (x - 1048576), .int .i64 (y - 1048576)]]) (v := .bool (((x - 1048576) == (Sp.lim 1048576 (x - 1048576))) && (((y - 1048576) == (Sp.lim 1048576 (y - 1048576))) && true))) (by kernel_rfl) (by kernel_rfl) (by kernel_rfl) (by kernel_rfl) (pok_ok (x - 1048576) (y - 1048576)) (by kernel_rfl) (by kernel_rfl)) <|
            .cons (d := some 56) (by kernel_rfl) (does_pure (v := .bool (!(((x - 1048576) == (Sp.lim 1048576 (x - 1048576))) && (((y - 1048576) == (Sp.lim 1048576 (y - 1048576))) && true)))) (by kernel_rfl) (fun w => by kernel_rfl) (by kernel_rfl)) <|
            .nil _ _) ?_
        refine aw_weak (weak_b (T := [(0, .int .i64 m), (2, .pointer (some ⟨1, 0, none⟩)), (3, .int .i64 0), (4, .int .i64 x), (5, .int .i64 y), (6, .int .i64 (Sp.pw k)), (9, .pointer (some ⟨2, 0, none⟩)), (15, .bool (decide (n ≥ 17592186044416))), (18, .bool (decide ((Sp.pw k) < 4194304))), (56, .bool (!(((x - 1048576) == (Sp.lim 1048576 (x - 1048576))) && (((y - 1048576) == (Sp.lim 1048576 (y - 1048576))) && true))))]) (L := [(1, ⟨[.int .i64 0, .int .i64 0], 24, true, 2⟩), (2, ⟨[.int .i64 (x - 1048576), .int .i64 (y - 1048576)], 24, true, 2⟩)]) (by kernel_rfl) (by kernel_rfl) (by kernel_rfl)) ?_
        refine aw_cond (o := .tmp 56) (b := !(((x - 1048576) == (Sp.lim 1048576 (x - 1048576))) && (((y - 1048576) == (Sp.lim 1048576 (y - 1048576))) && true))) (x := sub (bodyOf Try.f27) [true, true, true, true, true, false, true, false]) (y := sub (bodyOf Try.f27) [true, true, true, true, true, false, true, true]) (by kernel_rfl) (by kernel_rfl) (fun h4 => ?_) (fun h4 => ?_)
        · have hok : Sp.okb (x - 1048576) (y - 1048576) = false := by unfold Sp.okb; have q := h4; rw [Bool.not_eq_true'] at q; exact q
          have hofe : Sp.ofe n = 17 := by unfold Sp.ofe; rw [if_neg (by omega), ← hx, ← hy, hok]; rfl
          refine aw_plain_seq (r := sub (bodyOf Try.f27) [true, true, true, true, true, false, true, false, false]) (y := sub (bodyOf Try.f27) [true, true, true, true, true, false, true, false, true]) (id := 14) (ops := regOps (sub (bodyOf Try.f27) [true, true, true, true, true, false, true, false, false])) (by kernel_rfl) (by kernel_rfl) (by kernel_rfl) (by kernel_rfl) (
              .cons (d := some 57) (by kernel_rfl) (does_pure (v := .agg #[.int .i64 0, .int .i64 0]) (by kernel_rfl) (fun w => by kernel_rfl) (by kernel_rfl)) <|
              .cons (d := none) (by kernel_rfl) (does_store (t := 24) (x := .tmp 2) (y := .tmp 57) (k := 1) (off := 0) (b := ⟨[.int .i64 0, .int .i64 0], 24, true, 2⟩) (v := .agg #[.int .i64 0, .int .i64 0]) (cells := [.int .i64 0, .int .i64 0]) (by kernel_rfl) (by kernel_rfl) (by kernel_rfl) (by kernel_rfl) rfl (by kernel_rfl) (by kernel_rfl) (by kernel_rfl) (by kernel_rfl)) <|
              .cons (d := some 3) (by kernel_rfl) (does_assign (x := .const (.int .i64 17)) (v := .int .i64 17) (by kernel_rfl) (by kernel_rfl)) <|
              .nil _ _) ?_
          refine aw_weak (weak_b (T := [(0, .int .i64 m), (2, .pointer (some ⟨1, 0, none⟩)), (3, .int .i64 17), (4, .int .i64 x), (5, .int .i64 y), (6, .int .i64 (Sp.pw k)), (9, .pointer (some ⟨2, 0, none⟩)), (15, .bool (decide (n ≥ 17592186044416))), (18, .bool (decide ((Sp.pw k) < 4194304))), (56, .bool (!(((x - 1048576) == (Sp.lim 1048576 (x - 1048576))) && (((y - 1048576) == (Sp.lim 1048576 (y - 1048576))) && true))))]) (L := [(1, ⟨[.int .i64 0, .int .i64 0], 24, true, 2⟩), (2, ⟨[.int .i64 (x - 1048576), .int .i64 (y - 1048576)], 24, true, 2⟩)]) (by kernel_rfl) (by kernel_rfl) (by kernel_rfl)) ?_
          refine aw_ret (by kernel_rfl) ?_
          refine then_ret ?_
          exact end_ret (vs := [.agg #[.int .i64 0, .int .i64 0], .int .i64 17]) (by kernel_rfl) (show (.tuple #[.agg #[.int .i64 0, .int .i64 0], .int .i64 17] : Value) = (.tuple #[.agg #[.int .i64 (Sp.ofx n), .int .i64 (Sp.ofy n)], .int .i64 (Sp.ofe n)]) from (congrArg (fun z : List Value => Value.tuple z.toArray) (lcons (congrArg (fun z : List Value => Value.agg z.toArray) (lcons (congrArg (Value.int .i64) (show 0 = (Sp.ofx n) from by (have hz := hofe; first | (simp only [Sp.ofx, Sp.ofy, hz]; done) | (unfold Sp.ofx; rw [if_pos hz, ← hx]) | (unfold Sp.ofy; rw [if_pos hz, ← hy]) | (unfold Sp.ofx; rw [if_neg (by omega)]) | (unfold Sp.ofy; rw [if_neg (by omega)])))) (lcons (congrArg (Value.int .i64) (show 0 = (Sp.ofy n) from by (have hz := hofe; first | (simp only [Sp.ofx, Sp.ofy, hz]; done) | (unfold Sp.ofx; rw [if_pos hz, ← hx]) | (unfold Sp.ofy; rw [if_pos hz, ← hy]) | (unfold Sp.ofx; rw [if_neg (by omega)]) | (unfold Sp.ofy; rw [if_neg (by omega)])))) rfl))) (lcons (congrArg (Value.int .i64) (show 17 = (Sp.ofe n) from by (have hz := hofe; first | (simp only [Sp.ofx, Sp.ofy, hz]; done) | (unfold Sp.ofx; rw [if_pos hz, ← hx]) | (unfold Sp.ofy; rw [if_pos hz, ← hy]) | (unfold Sp.ofx; rw [if_neg (by omega)]) | (unfold Sp.ofy; rw [if_neg (by omega)])))) rfl)))) trivial
        · have hok : Sp.okb (x - 1048576) (y - 1048576) = true := by unfold Sp.okb; have q := h4; rw [Bool.not_eq_false'] at q; exact q
          have hofe : Sp.ofe n = 0 := by unfold Sp.ofe; rw [if_neg (by omega), ← hx, ← hy, hok]; rfl
          refine aw_skip (by kernel_rfl) ?_
          refine then_normal ?_
          refine aw_plain_seq (r := sub (bodyOf Try.f27) [true, true, true, true, true, true, false]) (y := sub (bodyOf Try.f27) [true, true, true, true, true, true, true]) (id := 15) (ops := regOps (sub (bodyOf Try.f27) [true, true, true, true, true, true, false])) (by kernel_rfl) (by kernel_rfl) (by kernel_rfl) (by kernel_rfl) (
              .cons (d := some 58) (by kernel_rfl) (does_load (t := 24) (x := .tmp 9) (k := 2) (off := 0) (b := ⟨[.int .i64 (x - 1048576), .int .i64 (y - 1048576)], 24, true, 2⟩) (v := .agg #[.int .i64 (x - 1048576), .int .i64 (y - 1048576)]) (by kernel_rfl) (by kernel_rfl) (by kernel_rfl) (by kernel_rfl)) <|
              .cons (d := none) (by kernel_rfl) (does_store (t := 24) (x := .tmp 2) (y := .tmp 58) (k := 1) (off := 0) (b := ⟨[.int .i64 0, .int .i64 0], 24, true, 2⟩) (v := .agg #[.int .i64 (x - 1048576), .int .i64 (y - 1048576)]) (cells := [.int .i64 (x - 1048576), .int .i64 (y - 1048576)]) (by kernel_rfl) (by kernel_rfl) (by kernel_rfl) (by kernel_rfl) rfl (by kernel_rfl) (by kernel_rfl) (by kernel_rfl) (by kernel_rfl)) <|
              .cons (d := some 3) (by kernel_rfl) (does_assign (x := .const (.int .i64 0)) (v := .int .i64 0) (by kernel_rfl) (by kernel_rfl)) <|
              .nil _ _) ?_
          refine aw_weak (weak_b (T := [(0, .int .i64 m), (2, .pointer (some ⟨1, 0, none⟩)), (3, .int .i64 0), (4, .int .i64 x), (5, .int .i64 y), (6, .int .i64 (Sp.pw k)), (9, .pointer (some ⟨2, 0, none⟩)), (15, .bool (decide (n ≥ 17592186044416))), (18, .bool (decide ((Sp.pw k) < 4194304))), (56, .bool (!(((x - 1048576) == (Sp.lim 1048576 (x - 1048576))) && (((y - 1048576) == (Sp.lim 1048576 (y - 1048576))) && true))))]) (L := [(1, ⟨[.int .i64 (x - 1048576), .int .i64 (y - 1048576)], 24, true, 2⟩), (2, ⟨[.int .i64 (x - 1048576), .int .i64 (y - 1048576)], 24, true, 2⟩)]) (by kernel_rfl) (by kernel_rfl) (by kernel_rfl)) ?_
          refine aw_ret (by kernel_rfl) ?_
          exact end_ret (vs := [.agg #[.int .i64 (x - 1048576), .int .i64 (y - 1048576)], .int .i64 0]) (by kernel_rfl) (show (.tuple #[.agg #[.int .i64 (x - 1048576), .int .i64 (y - 1048576)], .int .i64 0] : Value) = (.tuple #[.agg #[.int .i64 (Sp.ofx n), .int .i64 (Sp.ofy n)], .int .i64 (Sp.ofe n)]) from (congrArg (fun z : List Value => Value.tuple z.toArray) (lcons (congrArg (fun z : List Value => Value.agg z.toArray) (lcons (congrArg (Value.int .i64) (show (x - 1048576) = (Sp.ofx n) from by (have hz := hofe; first | (simp only [Sp.ofx, Sp.ofy, hz]; done) | (unfold Sp.ofx; rw [if_pos hz, ← hx]) | (unfold Sp.ofy; rw [if_pos hz, ← hy]) | (unfold Sp.ofx; rw [if_neg (by omega)]) | (unfold Sp.ofy; rw [if_neg (by omega)])))) (lcons (congrArg (Value.int .i64) (show (y - 1048576) = (Sp.ofy n) from by (have hz := hofe; first | (simp only [Sp.ofx, Sp.ofy, hz]; done) | (unfold Sp.ofx; rw [if_pos hz, ← hx]) | (unfold Sp.ofy; rw [if_pos hz, ← hy]) | (unfold Sp.ofx; rw [if_neg (by omega)]) | (unfold Sp.ofy; rw [if_neg (by omega)])))) rfl))) (lcons (congrArg (Value.int .i64) (show 0 = (Sp.ofe n) from by (have hz := hofe; first | (simp only [Sp.ofx, Sp.ofy, hz]; done) | (unfold Sp.ofx; rw [if_pos hz, ← hx]) | (unfold Sp.ofy; rw [if_pos hz, ← hy]) | (unfold Sp.ofx; rw [if_neg (by omega)]) | (unfold Sp.ofy; rw [if_neg (by omega)])))) rfl)))) trivial

theorem cbegun_ok  :
    AC Try.prog 61 0 ([]) [] (.bool true) [] := by
  refine ac_intro (fn := Try.f61) (c := bodyOf Try.f61) Try.func61 (by kernel_rfl) (by kernel_rfl) (by kernel_rfl) ?_
  intro w0 W pin
  refine aw_sub ?_
  refine aw_plain_seq (r := sub (bodyOf Try.f61) [false]) (y := sub (bodyOf Try.f61) [true]) (id := 0) (ops := regOps (sub (bodyOf Try.f61) [false])) (by kernel_rfl) (by kernel_rfl) (by kernel_rfl) (by kernel_rfl) (
      .cons (d := some 0) (by kernel_rfl) (does_assign (x := .const (.bool false)) (v := .bool false) (by kernel_rfl) (by kernel_rfl)) <|
      .nil _ _) ?_
  refine aw_weak (weak_b (T := [(0, .bool false)]) (L := []) (by kernel_rfl) (by kernel_rfl) (by kernel_rfl)) ?_
  refine aw_plain_seq (r := sub (bodyOf Try.f61) [true, false]) (y := sub (bodyOf Try.f61) [true, true]) (id := 1) (ops := regOps (sub (bodyOf Try.f61) [true, false])) (by kernel_rfl) (by kernel_rfl) (by kernel_rfl) (by kernel_rfl) (
      .cons (d := some 1) (by kernel_rfl) (does_call0 (x := .func 45) (ars := #[]) (ats := #[]) (g := 45) (vs := []) (v := .bool true) (by kernel_rfl) (by kernel_rfl) (by kernel_rfl) (by kernel_rfl) (terrkeep1_pointBegun_ok) (by kernel_rfl) (by kernel_rfl)) <|
      .cons (d := some 2) (by kernel_rfl) (does_move (x := .tmp 1) (v := .bool true) (by kernel_rfl) (by kernel_rfl)) <|
      .cons (d := some 3) (by kernel_rfl) (does_call0 (x := .func 48) (ars := #[.const (.int .i64 (-1048576)), .const (.int .i64 (-1048576))]) (ats := #[3, 3]) (g := 48) (vs := [.int .i64 (-1048576), .int .i64 (-1048576)]) (v := .agg #[.int .i64 (-1048576), .int .i64 (-1048576)]) (by kernel_rfl) (by kernel_rfl) (by kernel_rfl) (by kernel_rfl) (terrkeep1_at_ok (-1048576) (-1048576)) (by kernel_rfl) (by kernel_rfl)) <|
      .cons (d := some 4) (by kernel_rfl) (does_call0 (x := .func 26) (ars := #[.tmp 3]) (ats := #[24]) (g := 26) (vs := [.agg #[.int .i64 (-1048576), .int .i64 (-1048576)]]) (v := .int .i64 (Sp.index (-1048576) (-1048576))) (by kernel_rfl) (by kernel_rfl) (by kernel_rfl) (by kernel_rfl) (cindex_ok (-1048576) (-1048576)) (by kernel_rfl) (by kernel_rfl)) <|
      .cons (d := some 5) (by kernel_rfl) (does_bool (b' := true) (does_pure (v := .bool ((Sp.index (-1048576) (-1048576)) == 0)) (by kernel_rfl) (fun w => by kernel_rfl) (by kernel_rfl)) (by kernel_rfl)) <|
      .cons (d := some 6) (by kernel_rfl) (does_pick (c := .tmp 2) (x := .tmp 5) (y := .const (.bool false)) (b := true) (v := .bool true) (by kernel_rfl) (by kernel_rfl) (by kernel_rfl)) <|
      .cons (d := some 7) (by kernel_rfl) (does_move (x := .tmp 6) (v := .bool true) (by kernel_rfl) (by kernel_rfl)) <|
      .cons (d := some 8) (by kernel_rfl) (does_call0 (x := .func 48) (ars := #[.const (.int .i64 (-1048576)), .const (.int .i64 (-1048575))]) (ats := #[3, 3]) (g := 48) (vs := [.int .i64 (-1048576), .int .i64 (-1048575)]) (v := .agg #[.int .i64 (-1048576), .int .i64 (-1048575)]) (by kernel_rfl) (by kernel_rfl) (by kernel_rfl) (by kernel_rfl) (terrkeep1_at_ok (-1048576) (-1048575)) (by kernel_rfl) (by kernel_rfl)) <|
      .cons (d := some 9) (by kernel_rfl) (does_call0 (x := .func 26) (ars := #[.tmp 8]) (ats := #[24]) (g := 26) (vs := [.agg #[.int .i64 (-1048576), .int .i64 (-1048575)]]) (v := .int .i64 (Sp.index (-1048576) (-1048575))) (by kernel_rfl) (by kernel_rfl) (by kernel_rfl) (by kernel_rfl) (cindex_ok (-1048576) (-1048575)) (by kernel_rfl) (by kernel_rfl)) <|
      .cons (d := some 10) (by kernel_rfl) (does_call0 (x := .func 48) (ars := #[.const (.int .i64 (-1048575)), .const (.int .i64 (-1048576))]) (ats := #[3, 3]) (g := 48) (vs := [.int .i64 (-1048575), .int .i64 (-1048576)]) (v := .agg #[.int .i64 (-1048575), .int .i64 (-1048576)]) (by kernel_rfl) (by kernel_rfl) (by kernel_rfl) (by kernel_rfl) (terrkeep1_at_ok (-1048575) (-1048576)) (by kernel_rfl) (by kernel_rfl)) <|
      .cons (d := some 11) (by kernel_rfl) (does_call0 (x := .func 26) (ars := #[.tmp 10]) (ats := #[24]) (g := 26) (vs := [.agg #[.int .i64 (-1048575), .int .i64 (-1048576)]]) (v := .int .i64 (Sp.index (-1048575) (-1048576))) (by kernel_rfl) (by kernel_rfl) (by kernel_rfl) (by kernel_rfl) (cindex_ok (-1048575) (-1048576)) (by kernel_rfl) (by kernel_rfl)) <|
      .cons (d := some 12) (by kernel_rfl) (does_bool (b' := true) (does_pure (v := .bool ((Sp.index (-1048576) (-1048575)) != (Sp.index (-1048575) (-1048576)))) (by kernel_rfl) (fun w => by kernel_rfl) (by kernel_rfl)) (by kernel_rfl)) <|
      .cons (d := some 13) (by kernel_rfl) (does_pick (c := .tmp 7) (x := .tmp 12) (y := .const (.bool false)) (b := true) (v := .bool true) (by kernel_rfl) (by kernel_rfl) (by kernel_rfl)) <|
      .cons (d := some 0) (by kernel_rfl) (does_assign (x := .tmp 13) (v := .bool true) (by kernel_rfl) (by kernel_rfl)) <|
      .nil _ _) ?_
  refine aw_weak (weak_b (T := [(0, .bool true)]) (L := []) (by kernel_rfl) (by kernel_rfl) (by kernel_rfl)) ?_
  refine aw_ret (by kernel_rfl) ?_
  exact end_ret (vs := [.bool true]) (by kernel_rfl) (by kernel_rfl) trivial


end Go.Proofs.Ytpfdihhlpegllaa.Am
