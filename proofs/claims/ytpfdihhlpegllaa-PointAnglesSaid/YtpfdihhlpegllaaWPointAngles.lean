/-
  The walk of the law PointAngles.
-/
import Derived.Test.YtpfdihhlpegllaaProg
import Derived.Test.YtpfdihhlpegllaaPt3
namespace Go.Proofs.Ytpfdihhlpegllaa.Am
open Go Go.Proofs
set_option maxRecDepth 100000
set_option maxHeartbeats 4000000
set_option linter.unusedVariables false
set_option linter.unusedSimpArgs false

theorem pointAngles_walk (ax ay bx b_y : Int) :
    AC Try.prog 8 0 ([.agg #[.int .i64 ax, .int .i64 ay], .agg #[.int .i64 bx, .int .i64 b_y]]) [] (.bool true) [] := by
  refine ac_intro (fn := Try.f8) (c := bodyOf Try.f8) Try.func8 (by kernel_rfl) (by kernel_rfl) (by kernel_rfl) ?_
  intro w0 W pin
  refine aw_sub ?_
  refine aw_plain_seq (r := sub (bodyOf Try.f8) [false]) (y := sub (bodyOf Try.f8) [true]) (id := 0) (ops := regOps (sub (bodyOf Try.f8) [false])) (by kernel_rfl) (by kernel_rfl) (by kernel_rfl) (by kernel_rfl) (
      .cons (d := some 2) (by kernel_rfl) (does_box (t := 24) (x := .tmp 0) (k := 1) (v := .agg #[.int .i64 ax, .int .i64 ay]) (cells := [.int .i64 ax, .int .i64 ay]) (by kernel_rfl) (by kernel_rfl) (by kernel_rfl) (by kernel_rfl)) <|
      .cons (d := some 3) (by kernel_rfl) (does_box (t := 24) (x := .tmp 1) (k := 2) (v := .agg #[.int .i64 bx, .int .i64 b_y]) (cells := [.int .i64 bx, .int .i64 b_y]) (by kernel_rfl) (by kernel_rfl) (by kernel_rfl) (by kernel_rfl)) <|
      .cons (d := some 4) (by kernel_rfl) (does_assign (x := .const (.bool false)) (v := .bool false) (by kernel_rfl) (by kernel_rfl)) <|
      .nil _ _) ?_
  refine aw_weak (weak_b (T := [(2, .pointer (some ⟨1, 0, none⟩)), (3, .pointer (some ⟨2, 0, none⟩)), (4, .bool false)]) (L := [(1, ⟨[.int .i64 ax, .int .i64 ay], 24, true, 2⟩), (2, ⟨[.int .i64 bx, .int .i64 b_y], 24, true, 2⟩)]) (by kernel_rfl) (by kernel_rfl) (by kernel_rfl)) ?_
  refine aw_draws_seq (r := sub (bodyOf Try.f8) [true, false]) (y := sub (bodyOf Try.f8) [true, true]) (id := 1) (ops := regOps (sub (bodyOf Try.f8) [true, false])) [[], [0], [0, 1], [0, 1, 2], [0, 1, 2, 3], [0, 1, 2, 3, 4], [0, 1, 2, 3, 4, 5], [0, 1, 2, 3, 4, 5, 6], [0, 1, 2, 3, 4, 5, 6, 7], [0, 1, 2, 3, 4, 5, 6, 7], [0, 1, 2, 3, 4, 5, 6, 7, 8, 9], [0, 1, 2, 3, 4, 5, 6, 7], [0, 1, 2, 3, 4, 5, 6, 7], [0, 1, 2, 3, 4, 5, 6, 7, 8, 9, 10, 11, 12], [0, 1, 2, 3, 4, 5, 6, 7, 8, 9, 10, 11, 12, 13], [0, 1, 2, 3, 4, 5, 6, 7, 8, 9, 10, 11, 12, 13, 14], [0, 1, 2, 3, 4, 5, 6, 7, 8, 9, 10, 11, 12, 13, 14, 15]] (by kernel_rfl) (by kernel_rfl) (by kernel_rfl) (by kernel_rfl) (by kernel_rfl) (by kernel_rfl) (
      .cons (d := some 5) (by kernel_rfl) (does_call0 (x := .func 29) (ars := #[]) (ats := #[]) (g := 29) (vs := []) (v := .bool true) (by kernel_rfl) (by kernel_rfl) (by kernel_rfl) (by kernel_rfl) (terrlaw1_pointBegun_ok) (by kernel_rfl) (by kernel_rfl)) <|
      .cons (d := some 6) (by kernel_rfl) (does_move (x := .tmp 5) (v := .bool true) (by kernel_rfl) (by kernel_rfl)) <|
      .cons (d := some 7) (by kernel_rfl) (does_call0 (x := .func 17) (ars := #[.const (.int .i64 1), .const (.int .i64 0)]) (ats := #[3, 3]) (g := 17) (vs := [.int .i64 1, .int .i64 0]) (v := .agg #[.int .i64 1, .int .i64 0]) (by kernel_rfl) (by kernel_rfl) (by kernel_rfl) (by kernel_rfl) (terrlaw1_at_ok 1 0) (by kernel_rfl) (by kernel_rfl)) <|
      .cons (d := some 8) (by kernel_rfl) (does_call0 (x := .func 17) (ars := #[.const (.int .i64 0), .const (.int .i64 1)]) (ats := #[3, 3]) (g := 17) (vs := [.int .i64 0, .int .i64 1]) (v := .agg #[.int .i64 0, .int .i64 1]) (by kernel_rfl) (by kernel_rfl) (by kernel_rfl) (by kernel_rfl) (terrlaw1_at_ok 0 1) (by kernel_rfl) (by kernel_rfl)) <|
      .cons (d := some 9) (by kernel_rfl) (does_call0 (x := .func 59) (ars := #[.tmp 7, .tmp 8]) (ats := #[24, 24]) (g := 59) (vs := [.agg #[.int .i64 1, .int .i64 0], .agg #[.int .i64 0, .int .i64 1]]) (v := .int .i64 (Sp.angle (Sp.lim 2097152 1) (Sp.lim 2097152 0) (Sp.lim 2097152 0) (Sp.lim 2097152 1))) (by kernel_rfl) (by kernel_rfl) (by kernel_rfl) (by kernel_rfl) (angle_ok 1 0 0 1) (by kernel_rfl) (by kernel_rfl)) <|
      .cons (d := some 10) (by kernel_rfl) (does_bool (b' := true) (does_pure (v := .bool ((Sp.angle (Sp.lim 2097152 1) (Sp.lim 2097152 0) (Sp.lim 2097152 0) (Sp.lim 2097152 1)) == (-1))) (by kernel_rfl) (fun w => by kernel_rfl) (by kernel_rfl)) (by decide)) <|
      .cons (d := some 11) (by kernel_rfl) (does_pick (c := .tmp 6) (x := .tmp 10) (y := .const (.bool false)) (b := true) (v := .bool true) (by kernel_rfl) (by kernel_rfl) (by kernel_rfl)) <|
      .cons (d := some 12) (by kernel_rfl) (does_move (x := .tmp 11) (v := .bool true) (by kernel_rfl) (by kernel_rfl)) <|
      .cons (d := some 13) (by kernel_rfl) (does_load (t := 24) (x := .tmp 2) (k := 1) (off := 0) (b := ⟨[.int .i64 ax, .int .i64 ay], 24, true, 2⟩) (v := .agg #[.int .i64 ax, .int .i64 ay]) (by kernel_rfl) (by kernel_rfl) (by kernel_rfl) (by kernel_rfl)) <|
      .cons (d := some 14) (by kernel_rfl) (does_load (t := 24) (x := .tmp 3) (k := 2) (off := 0) (b := ⟨[.int .i64 bx, .int .i64 b_y], 24, true, 2⟩) (v := .agg #[.int .i64 bx, .int .i64 b_y]) (by kernel_rfl) (by kernel_rfl) (by kernel_rfl) (by kernel_rfl)) <|
      .cons (d := some 15) (by kernel_rfl) (does_call0 (x := .func 59) (ars := #[.tmp 13, .tmp 14]) (ats := #[24, 24]) (g := 59) (vs := [.agg #[.int .i64 ax, .int .i64 ay], .agg #[.int .i64 bx, .int .i64 b_y]]) (v := .int .i64 (Sp.angle (Sp.lim 2097152 ax) (Sp.lim 2097152 ay) (Sp.lim 2097152 bx) (Sp.lim 2097152 b_y))) (by kernel_rfl) (by kernel_rfl) (by kernel_rfl) (by kernel_rfl) (angle_ok ax ay bx b_y) (by kernel_rfl) (by kernel_rfl)) <|
      .cons (d := some 16) (by kernel_rfl) (does_load (t := 24) (x := .tmp 2) (k := 1) (off := 0) (b := ⟨[.int .i64 ax, .int .i64 ay], 24, true, 2⟩) (v := .agg #[.int .i64 ax, .int .i64 ay]) (by kernel_rfl) (by kernel_rfl) (by kernel_rfl) (by kernel_rfl)) <|
      .cons (d := some 17) (by kernel_rfl) (does_load (t := 24) (x := .tmp 3) (k := 2) (off := 0) (b := ⟨[.int .i64 bx, .int .i64 b_y], 24, true, 2⟩) (v := .agg #[.int .i64 bx, .int .i64 b_y]) (by kernel_rfl) (by kernel_rfl) (by kernel_rfl) (by kernel_rfl)) <|
      .cons (d := some 18) (by kernel_rfl) (does_call0 (x := .func 60) (ars := #[.tmp 16, .tmp 17]) (ats := #[24, 24]) (g := 60) (vs := [.agg #[.int .i64 ax, .int .i64 ay], .agg #[.int .i64 bx, .int .i64 b_y]]) (v := .int .i64 (Sp.angle (Sp.lim 2097152 ax) (Sp.lim 2097152 ay) (Sp.lim 2097152 bx) (Sp.lim 2097152 b_y))) (by kernel_rfl) (by kernel_rfl) (by kernel_rfl) (by kernel_rfl) (rround_ok ax ay bx b_y) (by kernel_rfl) (by kernel_rfl)) <|
      .cons (d := some 19) (by kernel_rfl) (does_bool (b' := true) (does_pure (v := .bool ((Sp.angle (Sp.lim 2097152 ax) (Sp.lim 2097152 ay) (Sp.lim 2097152 bx) (Sp.lim 2097152 b_y)) == (Sp.angle (Sp.lim 2097152 ax) (Sp.lim 2097152 ay) (Sp.lim 2097152 bx) (Sp.lim 2097152 b_y)))) (by kernel_rfl) (fun w => by kernel_rfl) (by kernel_rfl)) (by simp)) <|
      .cons (d := some 20) (by kernel_rfl) (does_pick (c := .tmp 12) (x := .tmp 19) (y := .const (.bool false)) (b := true) (v := .bool true) (by kernel_rfl) (by kernel_rfl) (by kernel_rfl)) <|
      .cons (d := some 4) (by kernel_rfl) (does_assign (x := .tmp 20) (v := .bool true) (by kernel_rfl) (by kernel_rfl)) <|
      .nil _ _) ?_
  refine aw_weak (weak_b (T := [(4, .bool true)]) (L := []) (by kernel_rfl) (by kernel_rfl) (by kernel_rfl)) ?_
  refine aw_ret (by kernel_rfl) ?_
  exact end_ret (vs := [.bool true]) (by kernel_rfl) (by kernel_rfl) trivial


end Go.Proofs.Ytpfdihhlpegllaa.Am
