/-
  The walks of the document's own functions of points, the second part.
-/
import Derived.Test.YtpfdihhlpegllaaProg
import Derived.Test.YtpfdihhlpegllaaPt2
namespace Go.Proofs.Ytpfdihhlpegllaa.Am
open Go Go.Proofs
set_option maxRecDepth 100000
set_option maxHeartbeats 4000000
set_option linter.unusedVariables false
set_option linter.unusedSimpArgs false

theorem rlies_ok (ax ay bx b_y cx cy : Int) :
    AC Try.prog 44 0 ([.agg #[.int .i64 ax, .int .i64 ay], .agg #[.int .i64 bx, .int .i64 b_y], .agg #[.int .i64 cx, .int .i64 cy]]) [] (.bool (Sp.onb (Sp.lim 1048576 ax) (Sp.lim 1048576 ay) (Sp.lim 1048576 bx) (Sp.lim 1048576 b_y) (Sp.lim 1048576 cx) (Sp.lim 1048576 cy))) [] := by
  have qax := Sp.lim_bd (m := 1048576) (by decide) ax; have qay := Sp.lim_bd (m := 1048576) (by decide) ay; have qbx := Sp.lim_bd (m := 1048576) (by decide) bx; have qb_y := Sp.lim_bd (m := 1048576) (by decide) b_y; have qcx := Sp.lim_bd (m := 1048576) (by decide) cx; have qcy := Sp.lim_bd (m := 1048576) (by decide) cy
  refine ac_intro (fn := Try.f44) (c := bodyOf Try.f44) Try.func44 (by kernel_rfl) (by kernel_rfl) (by kernel_rfl) ?_
  intro w0 W pin
  refine aw_sub ?_
  refine aw_plain_seq (r := sub (bodyOf Try.f44) [false]) (y := sub (bodyOf Try.f44) [true]) (id := 0) (ops := regOps (sub (bodyOf Try.f44) [false])) (by kernel_rfl) (by kernel_rfl) (by kernel_rfl) (by kernel_rfl) (
      .cons (d := some 3) (by kernel_rfl) (does_box (t := 24) (x := .tmp 0) (k := 1) (v := .agg #[.int .i64 ax, .int .i64 ay]) (cells := [.int .i64 ax, .int .i64 ay]) (by kernel_rfl) (by kernel_rfl) (by kernel_rfl) (by kernel_rfl)) <|
      .cons (d := some 4) (by kernel_rfl) (does_box (t := 24) (x := .tmp 1) (k := 2) (v := .agg #[.int .i64 bx, .int .i64 b_y]) (cells := [.int .i64 bx, .int .i64 b_y]) (by kernel_rfl) (by kernel_rfl) (by kernel_rfl) (by kernel_rfl)) <|
      .cons (d := some 5) (by kernel_rfl) (does_box (t := 24) (x := .tmp 2) (k := 3) (v := .agg #[.int .i64 cx, .int .i64 cy]) (cells := [.int .i64 cx, .int .i64 cy]) (by kernel_rfl) (by kernel_rfl) (by kernel_rfl) (by kernel_rfl)) <|
      .cons (d := some 6) (by kernel_rfl) (does_assign (x := .const (.bool false)) (v := .bool false) (by kernel_rfl) (by kernel_rfl)) <|
      .nil _ _) ?_
  refine aw_draws_seq (r := sub (bodyOf Try.f44) [true, false]) (y := sub (bodyOf Try.f44) [true, true]) (id := 1) (ops := regOps (sub (bodyOf Try.f44) [true, false])) [[], [0], [], [0, 1, 2], [], [0, 1, 2, 3, 4], [0, 1, 2, 3, 4, 5], [0, 1, 2, 3, 4, 5, 6], [0, 1, 2, 3, 4, 5, 6, 7]] (by kernel_rfl) (by kernel_rfl) (by kernel_rfl) (by kernel_rfl) (by kernel_rfl) (by kernel_rfl) (
      .cons (d := some 7) (by kernel_rfl) (does_load (t := 24) (x := .tmp 3) (k := 1) (off := 0) (b := ⟨[.int .i64 ax, .int .i64 ay], 24, true, 2⟩) (v := .agg #[.int .i64 ax, .int .i64 ay]) (by kernel_rfl) (by kernel_rfl) (by kernel_rfl) (by kernel_rfl)) <|
      .cons (d := some 8) (by kernel_rfl) (does_call0 (x := .func 16) (ars := #[.tmp 7]) (ats := #[24]) (g := 16) (vs := [.agg #[.int .i64 ax, .int .i64 ay]]) (v := .agg #[.int .i64 (Sp.lim 1048576 ax), .int .i64 (Sp.lim 1048576 ay)]) (by kernel_rfl) (by kernel_rfl) (by kernel_rfl) (by kernel_rfl) (rvalid_ok ax ay) (by kernel_rfl) (by kernel_rfl)) <|
      .cons (d := some 9) (by kernel_rfl) (does_load (t := 24) (x := .tmp 4) (k := 2) (off := 0) (b := ⟨[.int .i64 bx, .int .i64 b_y], 24, true, 2⟩) (v := .agg #[.int .i64 bx, .int .i64 b_y]) (by kernel_rfl) (by kernel_rfl) (by kernel_rfl) (by kernel_rfl)) <|
      .cons (d := some 10) (by kernel_rfl) (does_call0 (x := .func 16) (ars := #[.tmp 9]) (ats := #[24]) (g := 16) (vs := [.agg #[.int .i64 bx, .int .i64 b_y]]) (v := .agg #[.int .i64 (Sp.lim 1048576 bx), .int .i64 (Sp.lim 1048576 b_y)]) (by kernel_rfl) (by kernel_rfl) (by kernel_rfl) (by kernel_rfl) (rvalid_ok bx b_y) (by kernel_rfl) (by kernel_rfl)) <|
      .cons (d := some 11) (by kernel_rfl) (does_load (t := 24) (x := .tmp 5) (k := 3) (off := 0) (b := ⟨[.int .i64 cx, .int .i64 cy], 24, true, 2⟩) (v := .agg #[.int .i64 cx, .int .i64 cy]) (by kernel_rfl) (by kernel_rfl) (by kernel_rfl) (by kernel_rfl)) <|
      .cons (d := some 12) (by kernel_rfl) (does_call0 (x := .func 16) (ars := #[.tmp 11]) (ats := #[24]) (g := 16) (vs := [.agg #[.int .i64 cx, .int .i64 cy]]) (v := .agg #[.int .i64 (Sp.lim 1048576 cx), .int .i64 (Sp.lim 1048576 cy)]) (by kernel_rfl) (by kernel_rfl) (by kernel_rfl) (by kernel_rfl) (rvalid_ok cx cy) (by kernel_rfl) (by kernel_rfl)) <|
      .cons (d := none) (by kernel_rfl) (does_store (t := 24) (x := .tmp 3) (y := .tmp 8) (k := 1) (off := 0) (b := ⟨[.int .i64 ax, .int .i64 ay], 24, true, 2⟩) (v := .agg #[.int .i64 (Sp.lim 1048576 ax), .int .i64 (Sp.lim 1048576 ay)]) (cells := [.int .i64 (Sp.lim 1048576 ax), .int .i64 (Sp.lim 1048576 ay)]) (by kernel_rfl) (by kernel_rfl) (by kernel_rfl) (by kernel_rfl) rfl (by kernel_rfl) (by kernel_rfl) (by kernel_rfl) (by kernel_rfl)) <|
      .cons (d := none) (by kernel_rfl) (does_store (t := 24) (x := .tmp 4) (y := .tmp 10) (k := 2) (off := 0) (b := ⟨[.int .i64 bx, .int .i64 b_y], 24, true, 2⟩) (v := .agg #[.int .i64 (Sp.lim 1048576 bx), .int .i64 (Sp.lim 1048576 b_y)]) (cells := [.int .i64 (Sp.lim 1048576 bx), .int .i64 (Sp.lim 1048576 b_y)]) (by kernel_rfl) (by kernel_rfl) (by kernel_rfl) (by kernel_rfl) rfl (by kernel_rfl) (by kernel_rfl) (by kernel_rfl) (by kernel_rfl)) <|
      .cons (d := none) (by kernel_rfl) (does_store (t := 24) (x := .tmp 5) (y := .tmp 12) (k := 3) (off := 0) (b := ⟨[.int .i64 cx, .int .i64 cy], 24, true, 2⟩) (v := .agg #[.int .i64 (Sp.lim 1048576 cx), .int .i64 (Sp.lim 1048576 cy)]) (cells := [.int .i64 (Sp.lim 1048576 cx), .int .i64 (Sp.lim 1048576 cy)]) (by kernel_rfl) (by kernel_rfl) (by kernel_rfl) (by kernel_rfl) rfl (by kernel_rfl) (by kernel_rfl) (by kernel_rfl) (by kernel_rfl)) <|
      .nil _ _) ?_
  rcases Bool.eq_false_or_eq_true ((Sp.crs (Sp.lim 1048576 ax) (Sp.lim 1048576 ay) (Sp.lim 1048576 bx) (Sp.lim 1048576 b_y) (Sp.lim 1048576 cx) (Sp.lim 1048576 cy)) == 0) with h1 | h1
  · have h1p : (((Sp.crs (Sp.lim 1048576 ax) (Sp.lim 1048576 ay) (Sp.lim 1048576 bx) (Sp.lim 1048576 b_y) (Sp.lim 1048576 cx) (Sp.lim 1048576 cy)) = 0)) := by first | (simpa using h1) | (have h1q := h1; simp at h1q; omega) | (have h1q := bx1 h1; simp at h1q; omega)
    rcases Bool.eq_false_or_eq_true (Sp.btw (Sp.lim 1048576 cx) (Sp.lim 1048576 ax) (Sp.lim 1048576 bx)) with h2 | h2
    · refine aw_plain_seq (r := sub (bodyOf Try.f44) [true, true, false]) (y := sub (bodyOf Try.f44) [true, true, true]) (id := 2) (ops := regOps (sub (bodyOf Try.f44) [true, true, false])) (by kernel_rfl) (by kernel_rfl) (by kernel_rfl) (by kernel_rfl) (
          .cons (d := some 13) (by kernel_rfl) (does_load (t := 24) (x := .tmp 3) (k := 1) (off := 0) (b := ⟨[.int .i64 (Sp.lim 1048576 ax), .int .i64 (Sp.lim 1048576 ay)], 24, true, 2⟩) (v := .agg #[.int .i64 (Sp.lim 1048576 ax), .int .i64 (Sp.lim 1048576 ay)]) (by kernel_rfl) (by kernel_rfl) (by kernel_rfl) (by kernel_rfl)) <|
          .cons (d := some 14) (by kernel_rfl) (does_load (t := 24) (x := .tmp 4) (k := 2) (off := 0) (b := ⟨[.int .i64 (Sp.lim 1048576 bx), .int .i64 (Sp.lim 1048576 b_y)], 24, true, 2⟩) (v := .agg #[.int .i64 (Sp.lim 1048576 bx), .int .i64 (Sp.lim 1048576 b_y)]) (by kernel_rfl) (by kernel_rfl) (by kernel_rfl) (by kernel_rfl)) <|
          .cons (d := some 15) (by kernel_rfl) (does_load (t := 24) (x := .tmp 5) (k := 3) (off := 0) (b := ⟨[.int .i64 (Sp.lim 1048576 cx), .int .i64 (Sp.lim 1048576 cy)], 24, true, 2⟩) (v := .agg #[.int .i64 (Sp.lim 1048576 cx), .int .i64 (Sp.lim 1048576 cy)]) (by kernel_rfl) (by kernel_rfl) (by kernel_rfl) (by kernel_rfl)) <|
          .cons (d := some 16) (by kernel_rfl) (does_call0 (x := .func 36) (ars := #[.tmp 13, .tmp 14, .tmp 15]) (ats := #[24, 24, 24]) (g := 36) (vs := [.agg #[.int .i64 (Sp.lim 1048576 ax), .int .i64 (Sp.lim 1048576 ay)], .agg #[.int .i64 (Sp.lim 1048576 bx), .int .i64 (Sp.lim 1048576 b_y)], .agg #[.int .i64 (Sp.lim 1048576 cx), .int .i64 (Sp.lim 1048576 cy)]]) (v := .int .i64 (Sp.crs (Sp.lim 1048576 ax) (Sp.lim 1048576 ay) (Sp.lim 1048576 bx) (Sp.lim 1048576 b_y) (Sp.lim 1048576 cx) (Sp.lim 1048576 cy))) (by kernel_rfl) (by kernel_rfl) (by kernel_rfl) (by kernel_rfl) (rcross_in (Sp.lim 1048576 ax) (Sp.lim 1048576 ay) (Sp.lim 1048576 bx) (Sp.lim 1048576 b_y) (Sp.lim 1048576 cx) (Sp.lim 1048576 cy) (by omega) (by omega) (by omega) (by omega) (by omega) (by omega) (by omega) (by omega) (by omega) (by omega) (by omega) (by omega)) (by kernel_rfl) (by kernel_rfl)) <|
          .cons (d := some 17) (by kernel_rfl) (does_bool (b' := true) (does_pure (v := .bool ((Sp.crs (Sp.lim 1048576 ax) (Sp.lim 1048576 ay) (Sp.lim 1048576 bx) (Sp.lim 1048576 b_y) (Sp.lim 1048576 cx) (Sp.lim 1048576 cy)) == 0)) (by kernel_rfl) (fun w => by kernel_rfl) (by kernel_rfl)) (h1)) <|
          .cons (d := some 18) (by kernel_rfl) (does_move (x := .tmp 17) (v := .bool true) (by kernel_rfl) (by kernel_rfl)) <|
          .cons (d := some 19) (by kernel_rfl) (does_fieldAddr (s := 24) (x := .tmp 5) (f := 0) (k := 3) (off := 0) (d := 0) (by kernel_rfl) (by kernel_rfl) (by kernel_rfl)) <|
          .cons (d := some 20) (by kernel_rfl) (does_load (t := 3) (x := .tmp 19) (k := 3) (off := 0) (b := ⟨[.int .i64 (Sp.lim 1048576 cx), .int .i64 (Sp.lim 1048576 cy)], 24, true, 2⟩) (v := .int .i64 (Sp.lim 1048576 cx)) (by kernel_rfl) (by kernel_rfl) (by kernel_rfl) (by kernel_rfl)) <|
          .cons (d := some 21) (by kernel_rfl) (does_fieldAddr (s := 24) (x := .tmp 3) (f := 0) (k := 1) (off := 0) (d := 0) (by kernel_rfl) (by kernel_rfl) (by kernel_rfl)) <|
          .cons (d := some 22) (by kernel_rfl) (does_load (t := 3) (x := .tmp 21) (k := 1) (off := 0) (b := ⟨[.int .i64 (Sp.lim 1048576 ax), .int .i64 (Sp.lim 1048576 ay)], 24, true, 2⟩) (v := .int .i64 (Sp.lim 1048576 ax)) (by kernel_rfl) (by kernel_rfl) (by kernel_rfl) (by kernel_rfl)) <|
          .cons (d := some 23) (by kernel_rfl) (does_fieldAddr (s := 24) (x := .tmp 4) (f := 0) (k := 2) (off := 0) (d := 0) (by kernel_rfl) (by kernel_rfl) (by kernel_rfl)) <|
          .cons (d := some 24) (by kernel_rfl) (does_load (t := 3) (x := .tmp 23) (k := 2) (off := 0) (b := ⟨[.int .i64 (Sp.lim 1048576 bx), .int .i64 (Sp.lim 1048576 b_y)], 24, true, 2⟩) (v := .int .i64 (Sp.lim 1048576 bx)) (by kernel_rfl) (by kernel_rfl) (by kernel_rfl) (by kernel_rfl)) <|
          .cons (d := some 25) (by kernel_rfl) (does_bool (b' := true) (does_call0 (x := .func 81) (ars := #[.tmp 20, .tmp 22, .tmp 24]) (ats := #[3, 3, 3]) (g := 81) (vs := [.int .i64 (Sp.lim 1048576 cx), .int .i64 (Sp.lim 1048576 ax), .int .i64 (Sp.lim 1048576 bx)]) (v := .bool (Sp.btw (Sp.lim 1048576 cx) (Sp.lim 1048576 ax) (Sp.lim 1048576 bx))) (by kernel_rfl) (by kernel_rfl) (by kernel_rfl) (by kernel_rfl) (rbetween_ok (Sp.lim 1048576 cx) (Sp.lim 1048576 ax) (Sp.lim 1048576 bx)) (by kernel_rfl) (by kernel_rfl)) (h2)) <|
          .cons (d := some 26) (by kernel_rfl) (does_pick (c := .tmp 18) (x := .tmp 25) (y := .const (.bool false)) (b := true) (v := .bool true) (by kernel_rfl) (by kernel_rfl) (by kernel_rfl)) <|
          .cons (d := some 27) (by kernel_rfl) (does_move (x := .tmp 26) (v := .bool true) (by kernel_rfl) (by kernel_rfl)) <|
          .cons (d := some 28) (by kernel_rfl) (does_fieldAddr (s := 24) (x := .tmp 5) (f := 1) (k := 3) (off := 0) (d := 1) (by kernel_rfl) (by kernel_rfl) (by kernel_rfl)) <|
          .cons (d := some 29) (by kernel_rfl) (does_load (t := 3) (x := .tmp 28) (k := 3) (off := 1) (b := ⟨[.int .i64 (Sp.lim 1048576 cx), .int .i64 (Sp.lim 1048576 cy)], 24, true, 2⟩) (v := .int .i64 (Sp.lim 1048576 cy)) (by kernel_rfl) (by kernel_rfl) (by kernel_rfl) (by kernel_rfl)) <|
          .cons (d := some 30) (by kernel_rfl) (does_fieldAddr (s := 24) (x := .tmp 3) (f := 1) (k := 1) (off := 0) (d := 1) (by kernel_rfl) (by kernel_rfl) (by kernel_rfl)) <|
          .cons (d := some 31) (by kernel_rfl) (does_load (t := 3) (x := .tmp 30) (k := 1) (off := 1) (b := ⟨[.int .i64 (Sp.lim 1048576 ax), .int .i64 (Sp.lim 1048576 ay)], 24, true, 2⟩) (v := .int .i64 (Sp.lim 1048576 ay)) (by kernel_rfl) (by kernel_rfl) (by kernel_rfl) (by kernel_rfl)) <|
          .cons (d := some 32) (by kernel_rfl) (does_fieldAddr (s := 24) (x := .tmp 4) (f := 1) (k := 2) (off := 0) (d := 1) (by kernel_rfl) (by kernel_rfl) (by kernel_rfl)) <|
          .cons (d := some 33) (by kernel_rfl) (does_load (t := 3) (x := .tmp 32) (k := 2) (off := 1) (b := ⟨[.int .i64 (Sp.lim 1048576 bx), .int .i64 (Sp.lim 1048576 b_y)], 24, true, 2⟩) (v := .int .i64 (Sp.lim 1048576 b_y)) (by kernel_rfl) (by kernel_rfl) (by kernel_rfl) (by kernel_rfl)) <|
          .cons (d := some 34) (by kernel_rfl) (does_call0 (x := .func 81) (ars := #[.tmp 29, .tmp 31, .tmp 33]) (ats := #[3, 3, 3]) (g := 81) (vs := [.int .i64 (Sp.lim 1048576 cy), .int .i64 (Sp.lim 1048576 ay), .int .i64 (Sp.lim 1048576 b_y)]) (v := .bool (Sp.btw (Sp.lim 1048576 cy) (Sp.lim 1048576 ay) (Sp.lim 1048576 b_y))) (by kernel_rfl) (by kernel_rfl) (by kernel_rfl) (by kernel_rfl) (rbetween_ok (Sp.lim 1048576 cy) (Sp.lim 1048576 ay) (Sp.lim 1048576 b_y)) (by kernel_rfl) (by kernel_rfl)) <|
          .cons (d := some 35) (by kernel_rfl) (does_pick (c := .tmp 27) (x := .tmp 34) (y := .const (.bool false)) (b := true) (v := .bool (Sp.btw (Sp.lim 1048576 cy) (Sp.lim 1048576 ay) (Sp.lim 1048576 b_y))) (by kernel_rfl) (by kernel_rfl) (by kernel_rfl)) <|
          .cons (d := some 6) (by kernel_rfl) (does_assign (x := .tmp 35) (v := .bool (Sp.btw (Sp.lim 1048576 cy) (Sp.lim 1048576 ay) (Sp.lim 1048576 b_y))) (by kernel_rfl) (by kernel_rfl)) <|
          .nil _ _) ?_
      refine aw_ret (by kernel_rfl) ?_
      exact end_ret (vs := [.bool (Sp.btw (Sp.lim 1048576 cy) (Sp.lim 1048576 ay) (Sp.lim 1048576 b_y))]) (by kernel_rfl) (show (.bool (Sp.btw (Sp.lim 1048576 cy) (Sp.lim 1048576 ay) (Sp.lim 1048576 b_y)) : Value) = (.bool (Sp.onb (Sp.lim 1048576 ax) (Sp.lim 1048576 ay) (Sp.lim 1048576 bx) (Sp.lim 1048576 b_y) (Sp.lim 1048576 cx) (Sp.lim 1048576 cy))) from (congrArg Value.bool (show (Sp.btw (Sp.lim 1048576 cy) (Sp.lim 1048576 ay) (Sp.lim 1048576 b_y)) = (Sp.onb (Sp.lim 1048576 ax) (Sp.lim 1048576 ay) (Sp.lim 1048576 bx) (Sp.lim 1048576 b_y) (Sp.lim 1048576 cx) (Sp.lim 1048576 cy)) from by (rw [← Sp.lies_on]; simp [*])))) trivial
    · refine aw_plain_seq (r := sub (bodyOf Try.f44) [true, true, false]) (y := sub (bodyOf Try.f44) [true, true, true]) (id := 2) (ops := regOps (sub (bodyOf Try.f44) [true, true, false])) (by kernel_rfl) (by kernel_rfl) (by kernel_rfl) (by kernel_rfl) (
          .cons (d := some 13) (by kernel_rfl) (does_load (t := 24) (x := .tmp 3) (k := 1) (off := 0) (b := ⟨[.int .i64 (Sp.lim 1048576 ax), .int .i64 (Sp.lim 1048576 ay)], 24, true, 2⟩) (v := .agg #[.int .i64 (Sp.lim 1048576 ax), .int .i64 (Sp.lim 1048576 ay)]) (by kernel_rfl) (by kernel_rfl) (by kernel_rfl) (by kernel_rfl)) <|
          .cons (d := some 14) (by kernel_rfl) (does_load (t := 24) (x := .tmp 4) (k := 2) (off := 0) (b := ⟨[.int .i64 (Sp.lim 1048576 bx), .int .i64 (Sp.lim 1048576 b_y)], 24, true, 2⟩) (v := .agg #[.int .i64 (Sp.lim 1048576 bx), .int .i64 (Sp.lim 1048576 b_y)]) (by kernel_rfl) (by kernel_rfl) (by kernel_rfl) (by kernel_rfl)) <|
          .cons (d := some 15) (by kernel_rfl) (does_load (t := 24) (x := .tmp 5) (k := 3) (off := 0) (b := ⟨[.int .i64 (Sp.lim 1048576 cx), .int .i64 (Sp.lim 1048576 cy)], 24, true, 2⟩) (v := .agg #[.int .i64 (Sp.lim 1048576 cx), .int .i64 (Sp.lim 1048576 cy)]) (by kernel_rfl) (by kernel_rfl) (by kernel_rfl) (by kernel_rfl)) <|
          .cons (d := some 16) (by kernel_rfl) (does_call0 (x := .func 36) (ars := #[.tmp 13, .tmp 14, .tmp 15]) (ats := #[24, 24, 24]) (g := 36) (vs := [.agg #[.int .i64 (Sp.lim 1048576 ax), .int .i64 (Sp.lim 1048576 ay)], .agg #[.int .i64 (Sp.lim 1048576 bx), .int .i64 (Sp.lim 1048576 b_y)], .agg #[.int .i64 (Sp.lim 1048576 cx), .int .i64 (Sp.lim 1048576 cy)]]) (v := .int .i64 (Sp.crs (Sp.lim 1048576 ax) (Sp.lim 1048576 ay) (Sp.lim 1048576 bx) (Sp.lim 1048576 b_y) (Sp.lim 1048576 cx) (Sp.lim 1048576 cy))) (by kernel_rfl) (by kernel_rfl) (by kernel_rfl) (by kernel_rfl) (rcross_in (Sp.lim 1048576 ax) (Sp.lim 1048576 ay) (Sp.lim 1048576 bx) (Sp.lim 1048576 b_y) (Sp.lim 1048576 cx) (Sp.lim 1048576 cy) (by omega) (by omega) (by omega) (by omega) (by omega) (by omega) (by omega) (by omega) (by omega) (by omega) (by omega) (by omega)) (by kernel_rfl) (by kernel_rfl)) <|
          .cons (d := some 17) (by kernel_rfl) (does_bool (b' := true) (does_pure (v := .bool ((Sp.crs (Sp.lim 1048576 ax) (Sp.lim 1048576 ay) (Sp.lim 1048576 bx) (Sp.lim 1048576 b_y) (Sp.lim 1048576 cx) (Sp.lim 1048576 cy)) == 0)) (by kernel_rfl) (fun w => by kernel_rfl) (by kernel_rfl)) (h1)) <|
          .cons (d := some 18) (by kernel_rfl) (does_move (x := .tmp 17) (v := .bool true) (by kernel_rfl) (by kernel_rfl)) <|
          .cons (d := some 19) (by kernel_rfl) (does_fieldAddr (s := 24) (x := .tmp 5) (f := 0) (k := 3) (off := 0) (d := 0) (by kernel_rfl) (by kernel_rfl) (by kernel_rfl)) <|
          .cons (d := some 20) (by kernel_rfl) (does_load (t := 3) (x := .tmp 19) (k := 3) (off := 0) (b := ⟨[.int .i64 (Sp.lim 1048576 cx), .int .i64 (Sp.lim 1048576 cy)], 24, true, 2⟩) (v := .int .i64 (Sp.lim 1048576 cx)) (by kernel_rfl) (by kernel_rfl) (by kernel_rfl) (by kernel_rfl)) <|
          .cons (d := some 21) (by kernel_rfl) (does_fieldAddr (s := 24) (x := .tmp 3) (f := 0) (k := 1) (off := 0) (d := 0) (by kernel_rfl) (by kernel_rfl) (by kernel_rfl)) <|
          .cons (d := some 22) (by kernel_rfl) (does_load (t := 3) (x := .tmp 21) (k := 1) (off := 0) (b := ⟨[.int .i64 (Sp.lim 1048576 ax), .int .i64 (Sp.lim 1048576 ay)], 24, true, 2⟩) (v := .int .i64 (Sp.lim 1048576 ax)) (by kernel_rfl) (by kernel_rfl) (by kernel_rfl) (by kernel_rfl)) <|
          .cons (d := some 23) (by kernel_rfl) (does_fieldAddr (s := 24) (x := .tmp 4) (f := 0) (k := 2) (off := 0) (d := 0) (by kernel_rfl) (by kernel_rfl) (by kernel_rfl)) <|
          .cons (d := some 24) (by kernel_rfl) (does_load (t := 3) (x := .tmp 23) (k := 2) (off := 0) (b := ⟨[.int .i64 (Sp.lim 1048576 bx), .int .i64 (Sp.lim 1048576 b_y)], 24, true, 2⟩) (v := .int .i64 (Sp.lim 1048576 bx)) (by kernel_rfl) (by kernel_rfl) (by kernel_rfl) (by kernel_rfl)) <|
          .cons (d := some 25) (by kernel_rfl) (does_bool (b' := false) (does_call0 (x := .func 81) (ars := #[.tmp 20, .tmp 22, .tmp 24]) (ats := #[3, 3, 3]) (g := 81) (vs := [.int .i64 (Sp.lim 1048576 cx), .int .i64 (Sp.lim 1048576 ax), .int .i64 (Sp.lim 1048576 bx)]) (v := .bool (Sp.btw (Sp.lim 1048576 cx) (Sp.lim 1048576 ax) (Sp.lim 1048576 bx))) (by kernel_rfl) (by kernel_rfl) (by kernel_rfl) (by kernel_rfl) (rbetween_ok (Sp.lim 1048576 cx) (Sp.lim 1048576 ax) (Sp.lim 1048576 bx)) (by kernel_rfl) (by kernel_rfl)) (h2)) <|
          .cons (d := some 26) (by kernel_rfl) (does_pick (c := .tmp 18) (x := .tmp 25) (y := .const (.bool false)) (b := true) (v := .bool false) (by kernel_rfl) (by kernel_rfl) (by kernel_rfl)) <|
          .cons (d := some 27) (by kernel_rfl) (does_move (x := .tmp 26) (v := .bool false) (by kernel_rfl) (by kernel_rfl)) <|
          .cons (d := some 28) (by kernel_rfl) (does_skipB (by kernel_rfl)) <|
          .cons (d := some 29) (by kernel_rfl) (does_skipB (by kernel_rfl)) <|
          .cons (d := some 30) (by kernel_rfl) (does_skipB (by kernel_rfl)) <|
          .cons (d := some 31) (by kernel_rfl) (does_skipB (by kernel_rfl)) <|
          .cons (d := some 32) (by kernel_rfl) (does_skipB (by kernel_rfl)) <|
          .cons (d := some 33) (by kernel_rfl) (does_skipB (by kernel_rfl)) <|
          .cons (d := some 34) (by kernel_rfl) (does_skipB (by kernel_rfl)) <|
          .cons (d := some 35) (by kernel_rfl) (does_pick (c := .tmp 27) (x := .tmp 34) (y := .const (.bool false)) (b := false) (v := .bool false) (by kernel_rfl) (by kernel_rfl) (by kernel_rfl)) <|
          .cons (d := some 6) (by kernel_rfl) (does_assign (x := .tmp 35) (v := .bool false) (by kernel_rfl) (by kernel_rfl)) <|
          .nil _ _) ?_
      refine aw_ret (by kernel_rfl) ?_
      exact end_ret (vs := [.bool false]) (by kernel_rfl) (show (.bool false : Value) = (.bool (Sp.onb (Sp.lim 1048576 ax) (Sp.lim 1048576 ay) (Sp.lim 1048576 bx) (Sp.lim 1048576 b_y) (Sp.lim 1048576 cx) (Sp.lim 1048576 cy))) from (congrArg Value.bool (show false = (Sp.onb (Sp.lim 1048576 ax) (Sp.lim 1048576 ay) (Sp.lim 1048576 bx) (Sp.lim 1048576 b_y) (Sp.lim 1048576 cx) (Sp.lim 1048576 cy)) from by (rw [← Sp.lies_on]; simp [*])))) trivial
  · have h1p : ¬ (((Sp.crs (Sp.lim 1048576 ax) (Sp.lim 1048576 ay) (Sp.lim 1048576 bx) (Sp.lim 1048576 b_y) (Sp.lim 1048576 cx) (Sp.lim 1048576 cy)) = 0)) := by first | (simpa using h1) | (have h1q := h1; simp at h1q; omega) | (have h1q := bx2 h1; simp at h1q; omega)
    refine aw_plain_seq (r := sub (bodyOf Try.f44) [true, true, false]) (y := sub (bodyOf Try.f44) [true, true, true]) (id := 2) (ops := regOps (sub (bodyOf Try.f44) [true, true, false])) (by kernel_rfl) (by kernel_rfl) (by kernel_rfl) (by kernel_rfl) (
        .cons (d := some 13) (by kernel_rfl) (does_load (t := 24) (x := .tmp 3) (k := 1) (off := 0) (b := ⟨[.int .i64 (Sp.lim 1048576 ax), .int .i64 (Sp.lim 1048576 ay)], 24, true, 2⟩) (v := .agg #[.int .i64 (Sp.lim 1048576 ax), .int .i64 (Sp.lim 1048576 ay)]) (by kernel_rfl) (by kernel_rfl) (by kernel_rfl) (by kernel_rfl)) <|
        .cons (d := some 14) (by kernel_rfl) (does_load (t := 24) (x := .tmp 4) (k := 2) (off := 0) (b := ⟨[.int .i64 (Sp.lim 1048576 bx), .int .i64 (Sp.lim 1048576 b_y)], 24, true, 2⟩) (v := .agg #[.int .i64 (Sp.lim 1048576 bx), .int .i64 (Sp.lim 1048576 b_y)]) (by kernel_rfl) (by kernel_rfl) (by kernel_rfl) (by kernel_rfl)) <|
        .cons (d := some 15) (by kernel_rfl) (does_load (t := 24) (x := .tmp 5) (k := 3) (off := 0) (b := ⟨[.int .i64 (Sp.lim 1048576 cx), .int .i64 (Sp.lim 1048576 cy)], 24, true, 2⟩) (v := .agg #[.int .i64 (Sp.lim 1048576 cx), .int .i64 (Sp.lim 1048576 cy)]) (by kernel_rfl) (by kernel_rfl) (by kernel_rfl) (by kernel_rfl)) <|
        .cons (d := some 16) (by kernel_rfl) (does_call0 (x := .func 36) (ars := #[.tmp 13, .tmp 14, .tmp 15]) (ats := #[24, 24, 24]) (g := 36) (vs := [.agg #[.int .i64 (Sp.lim 1048576 ax), .int .i64 (Sp.lim 1048576 ay)], .agg #[.int .i64 (Sp.lim 1048576 bx), .int .i64 (Sp.lim 1048576 b_y)], .agg #[.int .i64 (Sp.lim 1048576 cx), .int .i64 (Sp.lim 1048576 cy)]]) (v := .int .i64 (Sp.crs (Sp.lim 1048576 ax) (Sp.lim 1048576 ay) (Sp.lim 1048576 bx) (Sp.lim 1048576 b_y) (Sp.lim 1048576 cx) (Sp.lim 1048576 cy))) (by kernel_rfl) (by kernel_rfl) (by kernel_rfl) (by kernel_rfl) (rcross_in (Sp.lim 1048576 ax) (Sp.lim 1048576 ay) (Sp.lim 1048576 bx) (Sp.lim 1048576 b_y) (Sp.lim 1048576 cx) (Sp.lim 1048576 cy) (by omega) (by omega) (by omega) (by omega) (by omega) (by omega) (by omega) (by omega) (by omega) (by omega) (by omega) (by omega)) (by kernel_rfl) (by kernel_rfl)) <|
        .cons (d := some 17) (by kernel_rfl) (does_bool (b' := false) (does_pure (v := .bool ((Sp.crs (Sp.lim 1048576 ax) (Sp.lim 1048576 ay) (Sp.lim 1048576 bx) (Sp.lim 1048576 b_y) (Sp.lim 1048576 cx) (Sp.lim 1048576 cy)) == 0)) (by kernel_rfl) (fun w => by kernel_rfl) (by kernel_rfl)) (h1)) <|
        .cons (d := some 18) (by kernel_rfl) (does_move (x := .tmp 17) (v := .bool false) (by kernel_rfl) (by kernel_rfl)) <|
        .cons (d := some 19) (by kernel_rfl) (does_skipB (by kernel_rfl)) <|
        .cons (d := some 20) (by kernel_rfl) (does_skipB (by kernel_rfl)) <|
        .cons (d := some 21) (by kernel_rfl) (does_skipB (by kernel_rfl)) <|
        .cons (d := some 22) (by kernel_rfl) (does_skipB (by kernel_rfl)) <|
        .cons (d := some 23) (by kernel_rfl) (does_skipB (by kernel_rfl)) <|
        .cons (d := some 24) (by kernel_rfl) (does_skipB (by kernel_rfl)) <|
        .cons (d := some 25) (by kernel_rfl) (does_skipB (by kernel_rfl)) <|
        .cons (d := some 26) (by kernel_rfl) (does_pick (c := .tmp 18) (x := .tmp 25) (y := .const (.bool false)) (b := false) (v := .bool false) (by kernel_rfl) (by kernel_rfl) (by kernel_rfl)) <|
        .cons (d := some 27) (by kernel_rfl) (does_move (x := .tmp 26) (v := .bool false) (by kernel_rfl) (by kernel_rfl)) <|
        .cons (d := some 28) (by kernel_rfl) (does_skipB (by kernel_rfl)) <|
        .cons (d := some 29) (by kernel_rfl) (does_skipB (by kernel_rfl)) <|
        .cons (d := some 30) (by kernel_rfl) (does_skipB (by kernel_rfl)) <|
        .cons (d := some 31) (by kernel_rfl) (does_skipB (by kernel_rfl)) <|
        .cons (d := some 32) (by kernel_rfl) (does_skipB (by kernel_rfl)) <|
        .cons (d := some 33) (by kernel_rfl) (does_skipB (by kernel_rfl)) <|
        .cons (d := some 34) (by kernel_rfl) (does_skipB (by kernel_rfl)) <|
        .cons (d := some 35) (by kernel_rfl) (does_pick (c := .tmp 27) (x := .tmp 34) (y := .const (.bool false)) (b := false) (v := .bool false) (by kernel_rfl) (by kernel_rfl) (by kernel_rfl)) <|
        .cons (d := some 6) (by kernel_rfl) (does_assign (x := .tmp 35) (v := .bool false) (by kernel_rfl) (by kernel_rfl)) <|
        .nil _ _) ?_
    refine aw_ret (by kernel_rfl) ?_
    exact end_ret (vs := [.bool false]) (by kernel_rfl) (show (.bool false : Value) = (.bool (Sp.onb (Sp.lim 1048576 ax) (Sp.lim 1048576 ay) (Sp.lim 1048576 bx) (Sp.lim 1048576 b_y) (Sp.lim 1048576 cx) (Sp.lim 1048576 cy))) from (congrArg Value.bool (show false = (Sp.onb (Sp.lim 1048576 ax) (Sp.lim 1048576 ay) (Sp.lim 1048576 bx) (Sp.lim 1048576 b_y) (Sp.lim 1048576 cx) (Sp.lim 1048576 cy)) from by (rw [← Sp.lies_on]; simp [*])))) trivial

theorem rquarter_ok (x y : Int) :
    AC Try.prog 92 0 ([.agg #[.int .i64 x, .int .i64 y]]) [] (.int .i64 (Sp.quarter x y)) [] := by
  refine ac_intro (fn := Try.f92) (c := bodyOf Try.f92) Try.func92 (by kernel_rfl) (by kernel_rfl) (by kernel_rfl) ?_
  intro w0 W pin
  refine aw_sub ?_
  refine aw_plain_seq (r := sub (bodyOf Try.f92) [false]) (y := sub (bodyOf Try.f92) [true]) (id := 0) (ops := regOps (sub (bodyOf Try.f92) [false])) (by kernel_rfl) (by kernel_rfl) (by kernel_rfl) (by kernel_rfl) (
      .cons (d := some 1) (by kernel_rfl) (does_box (t := 24) (x := .tmp 0) (k := 1) (v := .agg #[.int .i64 x, .int .i64 y]) (cells := [.int .i64 x, .int .i64 y]) (by kernel_rfl) (by kernel_rfl) (by kernel_rfl) (by kernel_rfl)) <|
      .cons (d := some 2) (by kernel_rfl) (does_assign (x := .const (.int .i64 0)) (v := .int .i64 0) (by kernel_rfl) (by kernel_rfl)) <|
      .nil _ _) ?_
  refine aw_weak (weak_b (T := [(1, .pointer (some ⟨1, 0, none⟩)), (2, .int .i64 0)]) (L := [(1, ⟨[.int .i64 x, .int .i64 y], 24, true, 2⟩)]) (by kernel_rfl) (by kernel_rfl) (by kernel_rfl)) ?_
  refine aw_seq (x := sub (bodyOf Try.f92) [true, false]) (y := sub (bodyOf Try.f92) [true, true]) (by kernel_rfl) ?_
  refine aw_block (id := 0) (x := sub (bodyOf Try.f92) [true, false, true]) (by kernel_rfl) ?_
  refine aw_plain_seq (r := sub (bodyOf Try.f92) [true, false, true, false]) (y := sub (bodyOf Try.f92) [true, false, true, true]) (id := 1) (ops := regOps (sub (bodyOf Try.f92) [true, false, true, false])) (by kernel_rfl) (by kernel_rfl) (by kernel_rfl) (by kernel_rfl) (
      .cons (d := some 4) (by kernel_rfl) (does_load (t := 24) (x := .tmp 1) (k := 1) (off := 0) (b := ⟨[.int .i64 x, .int .i64 y], 24, true, 2⟩) (v := .agg #[.int .i64 x, .int .i64 y]) (by kernel_rfl) (by kernel_rfl) (by kernel_rfl) (by kernel_rfl)) <|
      .cons (d := some 5) (by kernel_rfl) (does_pure (v := .agg #[.int .i64 0, .int .i64 0]) (by kernel_rfl) (fun w => by kernel_rfl) (by kernel_rfl)) <|
      .cons (d := some 6) (by kernel_rfl) (does_eql (t := 24) (t2 := 24) (x := .tmp 4) (y := .tmp 5) (xs := #[.int .i64 x, .int .i64 y]) (ys := #[.int .i64 0, .int .i64 0]) (b := ((x == 0) && ((y == 0) && true))) (by kernel_rfl) (by kernel_rfl) (by kernel_rfl) (by kernel_rfl) (by kernel_rfl) (by kernel_rfl) (by kernel_rfl)) <|
      .cons (d := some 3) (by kernel_rfl) (does_assign (x := .tmp 6) (v := .bool ((x == 0) && ((y == 0) && true))) (by kernel_rfl) (by kernel_rfl)) <|
      .nil _ _) ?_
  refine aw_weak (weak_b (T := [(1, .pointer (some ⟨1, 0, none⟩)), (2, .int .i64 0), (3, .bool ((x == 0) && ((y == 0) && true)))]) (L := [(1, ⟨[.int .i64 x, .int .i64 y], 24, true, 2⟩)]) (by kernel_rfl) (by kernel_rfl) (by kernel_rfl)) ?_
  refine aw_cond (o := .tmp 3) (b := ((x == 0) && ((y == 0) && true))) (x := sub (bodyOf Try.f92) [true, false, true, true, false]) (y := sub (bodyOf Try.f92) [true, false, true, true, true]) (by kernel_rfl) (by kernel_rfl) (fun h1 => ?_) (fun h1 => ?_)
  · have h1p : ((x = 0 ∧ y = 0)) := by first | (simpa using h1) | (have h1q := h1; simp at h1q; omega) | (have h1q := bx1 h1; simp at h1q; omega)
    refine aw_plain_seq (r := sub (bodyOf Try.f92) [true, false, true, true, false, false]) (y := sub (bodyOf Try.f92) [true, false, true, true, false, true]) (id := 2) (ops := regOps (sub (bodyOf Try.f92) [true, false, true, true, false, false])) (by kernel_rfl) (by kernel_rfl) (by kernel_rfl) (by kernel_rfl) (
        .cons (d := some 2) (by kernel_rfl) (does_assign (x := .const (.int .i64 0)) (v := .int .i64 0) (by kernel_rfl) (by kernel_rfl)) <|
        .nil _ _) ?_
    refine aw_weak (weak_b (T := [(1, .pointer (some ⟨1, 0, none⟩)), (2, .int .i64 0), (3, .bool ((x == 0) && ((y == 0) && true)))]) (L := [(1, ⟨[.int .i64 x, .int .i64 y], 24, true, 2⟩)]) (by kernel_rfl) (by kernel_rfl) (by kernel_rfl)) ?_
    refine aw_ret (by kernel_rfl) ?_
    refine block_ret ?_
    refine then_ret ?_
    exact end_ret (vs := [.int .i64 0]) (by kernel_rfl) (show (.int .i64 0 : Value) = (.int .i64 (Sp.quarter x y)) from (congrArg (Value.int .i64) (show 0 = (Sp.quarter x y) from by (simp only [Sp.quarter]; (repeat' split) <;> omega)))) trivial
  · have h1p : ¬ ((x = 0 ∧ y = 0)) := by first | (simpa using h1) | (have h1q := h1; simp at h1q; omega) | (have h1q := bx2 h1; simp at h1q; omega)
    rcases Bool.eq_false_or_eq_true (decide (x > 0)) with h2 | h2
    · have h2p : ((x > 0)) := by first | (simpa using h2) | (have h2q := h2; simp at h2q; omega) | (have h2q := bx1 h2; simp at h2q; omega)
      refine aw_plain_seq (r := sub (bodyOf Try.f92) [true, false, true, true, true, false]) (y := sub (bodyOf Try.f92) [true, false, true, true, true, true]) (id := 3) (ops := regOps (sub (bodyOf Try.f92) [true, false, true, true, true, false])) (by kernel_rfl) (by kernel_rfl) (by kernel_rfl) (by kernel_rfl) (
          .cons (d := some 8) (by kernel_rfl) (does_fieldAddr (s := 24) (x := .tmp 1) (f := 0) (k := 1) (off := 0) (d := 0) (by kernel_rfl) (by kernel_rfl) (by kernel_rfl)) <|
          .cons (d := some 9) (by kernel_rfl) (does_load (t := 3) (x := .tmp 8) (k := 1) (off := 0) (b := ⟨[.int .i64 x, .int .i64 y], 24, true, 2⟩) (v := .int .i64 x) (by kernel_rfl) (by kernel_rfl) (by kernel_rfl) (by kernel_rfl)) <|
          .cons (d := some 10) (by kernel_rfl) (does_bool (b' := true) (does_pure (v := .bool (decide (x > 0))) (by kernel_rfl) (fun w => by kernel_rfl) (by kernel_rfl)) (h2)) <|
          .cons (d := some 11) (by kernel_rfl) (does_move (x := .tmp 10) (v := .bool true) (by kernel_rfl) (by kernel_rfl)) <|
          .cons (d := some 12) (by kernel_rfl) (does_fieldAddr (s := 24) (x := .tmp 1) (f := 1) (k := 1) (off := 0) (d := 1) (by kernel_rfl) (by kernel_rfl) (by kernel_rfl)) <|
          .cons (d := some 13) (by kernel_rfl) (does_load (t := 3) (x := .tmp 12) (k := 1) (off := 1) (b := ⟨[.int .i64 x, .int .i64 y], 24, true, 2⟩) (v := .int .i64 y) (by kernel_rfl) (by kernel_rfl) (by kernel_rfl) (by kernel_rfl)) <|
          .cons (d := some 14) (by kernel_rfl) (does_pure (v := .bool (decide (y ≥ 0))) (by kernel_rfl) (fun w => by kernel_rfl) (by kernel_rfl)) <|
          .cons (d := some 15) (by kernel_rfl) (does_pick (c := .tmp 11) (x := .tmp 14) (y := .const (.bool false)) (b := true) (v := .bool (decide (y ≥ 0))) (by kernel_rfl) (by kernel_rfl) (by kernel_rfl)) <|
          .cons (d := some 7) (by kernel_rfl) (does_assign (x := .tmp 15) (v := .bool (decide (y ≥ 0))) (by kernel_rfl) (by kernel_rfl)) <|
          .nil _ _) ?_
      refine aw_weak (weak_b (T := [(1, .pointer (some ⟨1, 0, none⟩)), (2, .int .i64 0), (3, .bool ((x == 0) && ((y == 0) && true))), (7, .bool (decide (y ≥ 0)))]) (L := [(1, ⟨[.int .i64 x, .int .i64 y], 24, true, 2⟩)]) (by kernel_rfl) (by kernel_rfl) (by kernel_rfl)) ?_
      refine aw_cond (o := .tmp 7) (b := decide (y ≥ 0)) (x := sub (bodyOf Try.f92) [true, false, true, true, true, true, false]) (y := sub (bodyOf Try.f92) [true, false, true, true, true, true, true]) (by kernel_rfl) (by kernel_rfl) (fun h3 => ?_) (fun h3 => ?_)
      · have h3p : ((y ≥ 0)) := by first | (simpa using h3) | (have h3q := h3; simp at h3q; omega) | (have h3q := bx1 h3; simp at h3q; omega)
        refine aw_plain_seq (r := sub (bodyOf Try.f92) [true, false, true, true, true, true, false, false]) (y := sub (bodyOf Try.f92) [true, false, true, true, true, true, false, true]) (id := 4) (ops := regOps (sub (bodyOf Try.f92) [true, false, true, true, true, true, false, false])) (by kernel_rfl) (by kernel_rfl) (by kernel_rfl) (by kernel_rfl) (
            .cons (d := some 2) (by kernel_rfl) (does_assign (x := .const (.int .i64 1)) (v := .int .i64 1) (by kernel_rfl) (by kernel_rfl)) <|
            .nil _ _) ?_
        refine aw_weak (weak_b (T := [(1, .pointer (some ⟨1, 0, none⟩)), (2, .int .i64 1), (3, .bool ((x == 0) && ((y == 0) && true))), (7, .bool (decide (y ≥ 0)))]) (L := [(1, ⟨[.int .i64 x, .int .i64 y], 24, true, 2⟩)]) (by kernel_rfl) (by kernel_rfl) (by kernel_rfl)) ?_
        refine aw_ret (by kernel_rfl) ?_
        refine block_ret ?_
        refine then_ret ?_
        exact end_ret (vs := [.int .i64 1]) (by kernel_rfl) (show (.int .i64 1 : Value) = (.int .i64 (Sp.quarter x y)) from (congrArg (Value.int .i64) (show 1 = (Sp.quarter x y) from by (simp only [Sp.quarter]; (repeat' split) <;> omega)))) trivial
      · have h3p : ¬ ((y ≥ 0)) := by first | (simpa using h3) | (have h3q := h3; simp at h3q; omega) | (have h3q := bx2 h3; simp at h3q; omega)
        rcases Bool.eq_false_or_eq_true (decide (x ≤ 0)) with h4 | h4
        · have h4p : ((x ≤ 0)) := by first | (simpa using h4) | (have h4q := h4; simp at h4q; omega) | (have h4q := bx1 h4; simp at h4q; omega)
          refine aw_plain_seq (r := sub (bodyOf Try.f92) [true, false, true, true, true, true, true, false]) (y := sub (bodyOf Try.f92) [true, false, true, true, true, true, true, true]) (id := 5) (ops := regOps (sub (bodyOf Try.f92) [true, false, true, true, true, true, true, false])) (by kernel_rfl) (by kernel_rfl) (by kernel_rfl) (by kernel_rfl) (
              .cons (d := some 17) (by kernel_rfl) (does_fieldAddr (s := 24) (x := .tmp 1) (f := 0) (k := 1) (off := 0) (d := 0) (by kernel_rfl) (by kernel_rfl) (by kernel_rfl)) <|
              .cons (d := some 18) (by kernel_rfl) (does_load (t := 3) (x := .tmp 17) (k := 1) (off := 0) (b := ⟨[.int .i64 x, .int .i64 y], 24, true, 2⟩) (v := .int .i64 x) (by kernel_rfl) (by kernel_rfl) (by kernel_rfl) (by kernel_rfl)) <|
              .cons (d := some 19) (by kernel_rfl) (does_bool (b' := true) (does_pure (v := .bool (decide (x ≤ 0))) (by kernel_rfl) (fun w => by kernel_rfl) (by kernel_rfl)) (h4)) <|
              .cons (d := some 20) (by kernel_rfl) (does_move (x := .tmp 19) (v := .bool true) (by kernel_rfl) (by kernel_rfl)) <|
              .cons (d := some 21) (by kernel_rfl) (does_fieldAddr (s := 24) (x := .tmp 1) (f := 1) (k := 1) (off := 0) (d := 1) (by kernel_rfl) (by kernel_rfl) (by kernel_rfl)) <|
              .cons (d := some 22) (by kernel_rfl) (does_load (t := 3) (x := .tmp 21) (k := 1) (off := 1) (b := ⟨[.int .i64 x, .int .i64 y], 24, true, 2⟩) (v := .int .i64 y) (by kernel_rfl) (by kernel_rfl) (by kernel_rfl) (by kernel_rfl)) <|
              .cons (d := some 23) (by kernel_rfl) (does_pure (v := .bool (decide (y > 0))) (by kernel_rfl) (fun w => by kernel_rfl) (by kernel_rfl)) <|
              .cons (d := some 24) (by kernel_rfl) (does_pick (c := .tmp 20) (x := .tmp 23) (y := .const (.bool false)) (b := true) (v := .bool (decide (y > 0))) (by kernel_rfl) (by kernel_rfl) (by kernel_rfl)) <|
              .cons (d := some 16) (by kernel_rfl) (does_assign (x := .tmp 24) (v := .bool (decide (y > 0))) (by kernel_rfl) (by kernel_rfl)) <|
              .nil _ _) ?_
          refine aw_weak (weak_b (T := [(1, .pointer (some ⟨1, 0, none⟩)), (2, .int .i64 0), (3, .bool ((x == 0) && ((y == 0) && true))), (7, .bool (decide (y ≥ 0))), (16, .bool (decide (y > 0)))]) (L := [(1, ⟨[.int .i64 x, .int .i64 y], 24, true, 2⟩)]) (by kernel_rfl) (by kernel_rfl) (by kernel_rfl)) ?_
          refine aw_cond (o := .tmp 16) (b := decide (y > 0)) (x := sub (bodyOf Try.f92) [true, false, true, true, true, true, true, true, false]) (y := sub (bodyOf Try.f92) [true, false, true, true, true, true, true, true, true]) (by kernel_rfl) (by kernel_rfl) (fun h5 => ?_) (fun h5 => ?_)
          · have h5p : ((y > 0)) := by first | (simpa using h5) | (have h5q := h5; simp at h5q; omega) | (have h5q := bx1 h5; simp at h5q; omega)
            refine aw_plain_seq (r := sub (bodyOf Try.f92) [true, false, true, true, true, true, true, true, false, false]) (y := sub (bodyOf Try.f92) [true, false, true, true, true, true, true, true, false, true]) (id := 6) (ops := regOps (sub (bodyOf Try.f92) [true, false, true, true, true, true, true, true, false, false])) (by kernel_rfl) (by kernel_rfl) (by kernel_rfl) (by kernel_rfl) (
                .cons (d := some 2) (by kernel_rfl) (does_assign (x := .const (.int .i64 2)) (v := .int .i64 2) (by kernel_rfl) (by kernel_rfl)) <|
                .nil _ _) ?_
            refine aw_weak (weak_b (T := [(1, .pointer (some ⟨1, 0, none⟩)), (2, .int .i64 2), (3, .bool ((x == 0) && ((y == 0) && true))), (7, .bool (decide (y ≥ 0))), (16, .bool (decide (y > 0)))]) (L := [(1, ⟨[.int .i64 x, .int .i64 y], 24, true, 2⟩)]) (by kernel_rfl) (by kernel_rfl) (by kernel_rfl)) ?_
            refine aw_ret (by kernel_rfl) ?_
            refine block_ret ?_
            refine then_ret ?_
            exact end_ret (vs := [.int .i64 2]) (by kernel_rfl) (show (.int .i64 2 : Value) = (.int .i64 (Sp.quarter x y)) from (congrArg (Value.int .i64) (show 2 = (Sp.quarter x y) from by (simp only [Sp.quarter]; (repeat' split) <;> omega)))) trivial
          · have h5p : ¬ ((y > 0)) := by first | (simpa using h5) | (have h5q := h5; simp at h5q; omega) | (have h5q := bx2 h5; simp at h5q; omega)
            refine aw_plain_seq (r := sub (bodyOf Try.f92) [true, false, true, true, true, true, true, true, true, false]) (y := sub (bodyOf Try.f92) [true, false, true, true, true, true, true, true, true, true]) (id := 7) (ops := regOps (sub (bodyOf Try.f92) [true, false, true, true, true, true, true, true, true, false])) (by kernel_rfl) (by kernel_rfl) (by kernel_rfl) (by kernel_rfl) (
                .cons (d := some 26) (by kernel_rfl) (does_fieldAddr (s := 24) (x := .tmp 1) (f := 0) (k := 1) (off := 0) (d := 0) (by kernel_rfl) (by kernel_rfl) (by kernel_rfl)) <|
                .cons (d := some 27) (by kernel_rfl) (does_load (t := 3) (x := .tmp 26) (k := 1) (off := 0) (b := ⟨[.int .i64 x, .int .i64 y], 24, true, 2⟩) (v := .int .i64 x) (by kernel_rfl) (by kernel_rfl) (by kernel_rfl) (by kernel_rfl)) <|
                .cons (d := some 28) (by kernel_rfl) (does_pure (v := .bool (decide (x < 0))) (by kernel_rfl) (fun w => by kernel_rfl) (by kernel_rfl)) <|
                .cons (d := some 25) (by kernel_rfl) (does_assign (x := .tmp 28) (v := .bool (decide (x < 0))) (by kernel_rfl) (by kernel_rfl)) <|
                .nil _ _) ?_
            refine aw_weak (weak_b (T := [(1, .pointer (some ⟨1, 0, none⟩)), (2, .int .i64 0), (3, .bool ((x == 0) && ((y == 0) && true))), (7, .bool (decide (y ≥ 0))), (16, .bool (decide (y > 0))), (25, .bool (decide (x < 0)))]) (L := [(1, ⟨[.int .i64 x, .int .i64 y], 24, true, 2⟩)]) (by kernel_rfl) (by kernel_rfl) (by kernel_rfl)) ?_
            refine aw_cond (o := .tmp 25) (b := decide (x < 0)) (x := sub (bodyOf Try.f92) [true, false, true, true, true, true, true, true, true, true, false]) (y := sub (bodyOf Try.f92) [true, false, true, true, true, true, true, true, true, true, true]) (by kernel_rfl) (by kernel_rfl) (fun h6 => ?_) (fun h6 => ?_)
            · have h6p : ((x < 0)) := by first | (simpa using h6) | (have h6q := h6; simp at h6q; omega) | (have h6q := bx1 h6; simp at h6q; omega)
              refine aw_plain_seq (r := sub (bodyOf Try.f92) [true, false, true, true, true, true, true, true, true, true, false, false]) (y := sub (bodyOf Try.f92) [true, false, true, true, true, true, true, true, true, true, false, true]) (id := 8) (ops := regOps (sub (bodyOf Try.f92) [true, false, true, true, true, true, true, true, true, true, false, false])) (by kernel_rfl) (by kernel_rfl) (by kernel_rfl) (by kernel_rfl) (
                  .cons (d := some 2) (by kernel_rfl) (does_assign (x := .const (.int .i64 3)) (v := .int .i64 3) (by kernel_rfl) (by kernel_rfl)) <|
                  .nil _ _) ?_
              refine aw_weak (weak_b (T := [(1, .pointer (some ⟨1, 0, none⟩)), (2, .int .i64 3), (3, .bool ((x == 0) && ((y == 0) && true))), (7, .bool (decide (y ≥ 0))), (16, .bool (decide (y > 0))), (25, .bool (decide (x < 0)))]) (L := [(1, ⟨[.int .i64 x, .int .i64 y], 24, true, 2⟩)]) (by kernel_rfl) (by kernel_rfl) (by kernel_rfl)) ?_
              refine aw_ret (by kernel_rfl) ?_
              refine block_ret ?_
              refine then_ret ?_
              exact end_ret (vs := [.int .i64 3]) (by kernel_rfl) (show (.int .i64 3 : Value) = (.int .i64 (Sp.quarter x y)) from (congrArg (Value.int .i64) (show 3 = (Sp.quarter x y) from by (simp only [Sp.quarter]; (repeat' split) <;> omega)))) trivial
            · have h6p : ¬ ((x < 0)) := by first | (simpa using h6) | (have h6q := h6; simp at h6q; omega) | (have h6q := bx2 h6; simp at h6q; omega)
              refine aw_skip (by kernel_rfl) ?_
              refine block_normal ?_
              refine then_normal ?_
              refine aw_plain_seq (r := sub (bodyOf Try.f92) [true, true, false]) (y := sub (bodyOf Try.f92) [true, true, true]) (id := 9) (ops := regOps (sub (bodyOf Try.f92) [true, true, false])) (by kernel_rfl) (by kernel_rfl) (by kernel_rfl) (by kernel_rfl) (
                  .cons (d := some 2) (by kernel_rfl) (does_assign (x := .const (.int .i64 4)) (v := .int .i64 4) (by kernel_rfl) (by kernel_rfl)) <|
                  .nil _ _) ?_
              refine aw_weak (weak_b (T := [(1, .pointer (some ⟨1, 0, none⟩)), (2, .int .i64 4), (3, .bool ((x == 0) && ((y == 0) && true))), (7, .bool (decide (y ≥ 0))), (16, .bool (decide (y > 0))), (25, .bool (decide (x < 0)))]) (L := [(1, ⟨[.int .i64 x, .int .i64 y], 24, true, 2⟩)]) (by kernel_rfl) (by kernel_rfl) (by kernel_rfl)) ?_
              refine aw_ret (by kernel_rfl) ?_
              exact end_ret (vs := [.int .i64 4]) (by kernel_rfl) (show (.int .i64 4 : Value) = (.int .i64 (Sp.quarter x y)) from (congrArg (Value.int .i64) (show 4 = (Sp.quarter x y) from by (simp only [Sp.quarter]; (repeat' split) <;> omega)))) trivial
        · have h4p : ¬ ((x ≤ 0)) := by first | (simpa using h4) | (have h4q := h4; simp at h4q; omega) | (have h4q := bx2 h4; simp at h4q; omega)
          refine aw_plain_seq (r := sub (bodyOf Try.f92) [true, false, true, true, true, true, true, false]) (y := sub (bodyOf Try.f92) [true, false, true, true, true, true, true, true]) (id := 5) (ops := regOps (sub (bodyOf Try.f92) [true, false, true, true, true, true, true, false])) (by kernel_rfl) (by kernel_rfl) (by kernel_rfl) (by kernel_rfl) (
              .cons (d := some 17) (by kernel_rfl) (does_fieldAddr (s := 24) (x := .tmp 1) (f := 0) (k := 1) (off := 0) (d := 0) (by kernel_rfl) (by kernel_rfl) (by kernel_rfl)) <|
              .cons (d := some 18) (by kernel_rfl) (does_load (t := 3) (x := .tmp 17) (k := 1) (off := 0) (b := ⟨[.int .i64 x, .int .i64 y], 24, true, 2⟩) (v := .int .i64 x) (by kernel_rfl) (by kernel_rfl) (by kernel_rfl) (by kernel_rfl)) <|
              .cons (d := some 19) (by kernel_rfl) (does_bool (b' := false) (does_pure (v := .bool (decide (x ≤ 0))) (by kernel_rfl) (fun w => by kernel_rfl) (by kernel_rfl)) (h4)) <|
              .cons (d := some 20) (by kernel_rfl) (does_move (x := .tmp 19) (v := .bool false) (by kernel_rfl) (by kernel_rfl)) <|
              .cons (d := some 21) (by kernel_rfl) (does_skipB (by kernel_rfl)) <|
              .cons (d := some 22) (by kernel_rfl) (does_skipB (by kernel_rfl)) <|
              .cons (d := some 23) (by kernel_rfl) (does_skipB (by kernel_rfl)) <|
              .cons (d := some 24) (by kernel_rfl) (does_pick (c := .tmp 20) (x := .tmp 23) (y := .const (.bool false)) (b := false) (v := .bool false) (by kernel_rfl) (by kernel_rfl) (by kernel_rfl)) <|
              .cons (d := some 16) (by kernel_rfl) (does_assign (x := .tmp 24) (v := .bool false) (by kernel_rfl) (by kernel_rfl)) <|
              .nil _ _) ?_
          refine aw_weak (weak_b (T := [(1, .pointer (some ⟨1, 0, none⟩)), (2, .int .i64 0), (3, .bool ((x == 0) && ((y == 0) && true))), (7, .bool (decide (y ≥ 0))), (16, .bool false)]) (L := [(1, ⟨[.int .i64 x, .int .i64 y], 24, true, 2⟩)]) (by kernel_rfl) (by kernel_rfl) (by kernel_rfl)) ?_
          refine aw_false (o := .tmp 16) (x := sub (bodyOf Try.f92) [true, false, true, true, true, true, true, true, false]) (y := sub (bodyOf Try.f92) [true, false, true, true, true, true, true, true, true]) (by kernel_rfl) (by kernel_rfl) ?_
          refine aw_plain_seq (r := sub (bodyOf Try.f92) [true, false, true, true, true, true, true, true, true, false]) (y := sub (bodyOf Try.f92) [true, false, true, true, true, true, true, true, true, true]) (id := 7) (ops := regOps (sub (bodyOf Try.f92) [true, false, true, true, true, true, true, true, true, false])) (by kernel_rfl) (by kernel_rfl) (by kernel_rfl) (by kernel_rfl) (
              .cons (d := some 26) (by kernel_rfl) (does_fieldAddr (s := 24) (x := .tmp 1) (f := 0) (k := 1) (off := 0) (d := 0) (by kernel_rfl) (by kernel_rfl) (by kernel_rfl)) <|
              .cons (d := some 27) (by kernel_rfl) (does_load (t := 3) (x := .tmp 26) (k := 1) (off := 0) (b := ⟨[.int .i64 x, .int .i64 y], 24, true, 2⟩) (v := .int .i64 x) (by kernel_rfl) (by kernel_rfl) (by kernel_rfl) (by kernel_rfl)) <|
              .cons (d := some 28) (by kernel_rfl) (does_pure (v := .bool (decide (x < 0))) (by kernel_rfl) (fun w => by kernel_rfl) (by kernel_rfl)) <|
              .cons (d := some 25) (by kernel_rfl) (does_assign (x := .tmp 28) (v := .bool (decide (x < 0))) (by kernel_rfl) (by kernel_rfl)) <|
              .nil _ _) ?_
          refine aw_weak (weak_b (T := [(1, .pointer (some ⟨1, 0, none⟩)), (2, .int .i64 0), (3, .bool ((x == 0) && ((y == 0) && true))), (7, .bool (decide (y ≥ 0))), (16, .bool false), (25, .bool (decide (x < 0)))]) (L := [(1, ⟨[.int .i64 x, .int .i64 y], 24, true, 2⟩)]) (by kernel_rfl) (by kernel_rfl) (by kernel_rfl)) ?_
          refine aw_cond (o := .tmp 25) (b := decide (x < 0)) (x := sub (bodyOf Try.f92) [true, false, true, true, true, true, true, true, true, true, false]) (y := sub (bodyOf Try.f92) [true, false, true, true, true, true, true, true, true, true, true]) (by kernel_rfl) (by kernel_rfl) (fun h7 => ?_) (fun h7 => ?_)
          · have h7p : ((x < 0)) := by first | (simpa using h7) | (have h7q := h7; simp at h7q; omega) | (have h7q := bx1 h7; simp at h7q; omega)
            refine aw_plain_seq (r := sub (bodyOf Try.f92) [true, false, true, true, true, true, true, true, true, true, false, false]) (y := sub (bodyOf Try.f92) [true, false, true, true, true, true, true, true, true, true, false, true]) (id := 8) (ops := regOps (sub (bodyOf Try.f92) [true, false, true, true, true, true, true, true, true, true, false, false])) (by kernel_rfl) (by kernel_rfl) (by kernel_rfl) (by kernel_rfl) (
                .cons (d := some 2) (by kernel_rfl) (does_assign (x := .const (.int .i64 3)) (v := .int .i64 3) (by kernel_rfl) (by kernel_rfl)) <|
                .nil _ _) ?_
            refine aw_weak (weak_b (T := [(1, .pointer (some ⟨1, 0, none⟩)), (2, .int .i64 3), (3, .bool ((x == 0) && ((y == 0) && true))), (7, .bool (decide (y ≥ 0))), (16, .bool false), (25, .bool (decide (x < 0)))]) (L := [(1, ⟨[.int .i64 x, .int .i64 y], 24, true, 2⟩)]) (by kernel_rfl) (by kernel_rfl) (by kernel_rfl)) ?_
            refine aw_ret (by kernel_rfl) ?_
            refine block_ret ?_
            refine then_ret ?_
            exact end_ret (vs := [.int .i64 3]) (by kernel_rfl) (show (.int .i64 3 : Value) = (.int .i64 (Sp.quarter x y)) from (congrArg (Value.int .i64) (show 3 = (Sp.quarter x y) from by (simp only [Sp.quarter]; (repeat' split) <;> omega)))) trivial
          · have h7p : ¬ ((x < 0)) := by first | (simpa using h7) | (have h7q := h7; simp at h7q; omega) | (have h7q := bx2 h7; simp at h7q; omega)
            refine aw_skip (by kernel_rfl) ?_
            refine block_normal ?_
            refine then_normal ?_
            refine aw_plain_seq (r := sub (bodyOf Try.f92) [true, true, false]) (y := sub (bodyOf Try.f92) [true, true, true]) (id := 9) (ops := regOps (sub (bodyOf Try.f92) [true, true, false])) (by kernel_rfl) (by kernel_rfl) (by kernel_rfl) (by kernel_rfl) (
                .cons (d := some 2) (by kernel_rfl) (does_assign (x := .const (.int .i64 4)) (v := .int .i64 4) (by kernel_rfl) (by kernel_rfl)) <|
                .nil _ _) ?_
            refine aw_weak (weak_b (T := [(1, .pointer (some ⟨1, 0, none⟩)), (2, .int .i64 4), (3, .bool ((x == 0) && ((y == 0) && true))), (7, .bool (decide (y ≥ 0))), (16, .bool false), (25, .bool (decide (x < 0)))]) (L := [(1, ⟨[.int .i64 x, .int .i64 y], 24, true, 2⟩)]) (by kernel_rfl) (by kernel_rfl) (by kernel_rfl)) ?_
            refine aw_ret (by kernel_rfl) ?_
            exact end_ret (vs := [.int .i64 4]) (by kernel_rfl) (show (.int .i64 4 : Value) = (.int .i64 (Sp.quarter x y)) from (congrArg (Value.int .i64) (show 4 = (Sp.quarter x y) from by (simp only [Sp.quarter]; (repeat' split) <;> omega)))) trivial
    · have h2p : ¬ ((x > 0)) := by first | (simpa using h2) | (have h2q := h2; simp at h2q; omega) | (have h2q := bx2 h2; simp at h2q; omega)
      refine aw_plain_seq (r := sub (bodyOf Try.f92) [true, false, true, true, true, false]) (y := sub (bodyOf Try.f92) [true, false, true, true, true, true]) (id := 3) (ops := regOps (sub (bodyOf Try.f92) [true, false, true, true, true, false])) (by kernel_rfl) (by kernel_rfl) (by kernel_rfl) (by kernel_rfl) (
          .cons (d := some 8) (by kernel_rfl) (does_fieldAddr (s := 24) (x := .tmp 1) (f := 0) (k := 1) (off := 0) (d := 0) (by kernel_rfl) (by kernel_rfl) (by kernel_rfl)) <|
          .cons (d := some 9) (by kernel_rfl) (does_load (t := 3) (x := .tmp 8) (k := 1) (off := 0) (b := ⟨[.int .i64 x, .int .i64 y], 24, true, 2⟩) (v := .int .i64 x) (by kernel_rfl) (by kernel_rfl) (by kernel_rfl) (by kernel_rfl)) <|
          .cons (d := some 10) (by kernel_rfl) (does_bool (b' := false) (does_pure (v := .bool (decide (x > 0))) (by kernel_rfl) (fun w => by kernel_rfl) (by kernel_rfl)) (h2)) <|
          .cons (d := some 11) (by kernel_rfl) (does_move (x := .tmp 10) (v := .bool false) (by kernel_rfl) (by kernel_rfl)) <|
          .cons (d := some 12) (by kernel_rfl) (does_skipB (by kernel_rfl)) <|
          .cons (d := some 13) (by kernel_rfl) (does_skipB (by kernel_rfl)) <|
          .cons (d := some 14) (by kernel_rfl) (does_skipB (by kernel_rfl)) <|
          .cons (d := some 15) (by kernel_rfl) (does_pick (c := .tmp 11) (x := .tmp 14) (y := .const (.bool false)) (b := false) (v := .bool false) (by kernel_rfl) (by kernel_rfl) (by kernel_rfl)) <|
          .cons (d := some 7) (by kernel_rfl) (does_assign (x := .tmp 15) (v := .bool false) (by kernel_rfl) (by kernel_rfl)) <|
          .nil _ _) ?_
      refine aw_weak (weak_b (T := [(1, .pointer (some ⟨1, 0, none⟩)), (2, .int .i64 0), (3, .bool ((x == 0) && ((y == 0) && true))), (7, .bool false)]) (L := [(1, ⟨[.int .i64 x, .int .i64 y], 24, true, 2⟩)]) (by kernel_rfl) (by kernel_rfl) (by kernel_rfl)) ?_
      refine aw_false (o := .tmp 7) (x := sub (bodyOf Try.f92) [true, false, true, true, true, true, false]) (y := sub (bodyOf Try.f92) [true, false, true, true, true, true, true]) (by kernel_rfl) (by kernel_rfl) ?_
      rcases Bool.eq_false_or_eq_true (decide (x ≤ 0)) with h8 | h8
      · have h8p : ((x ≤ 0)) := by first | (simpa using h8) | (have h8q := h8; simp at h8q; omega) | (have h8q := bx1 h8; simp at h8q; omega)
        refine aw_plain_seq (r := sub (bodyOf Try.f92) [true, false, true, true, true, true, true, false]) (y := sub (bodyOf Try.f92) [true, false, true, true, true, true, true, true]) (id := 5) (ops := regOps (sub (bodyOf Try.f92) [true, false, true, true, true, true, true, false])) (by kernel_rfl) (by kernel_rfl) (by kernel_rfl) (by kernel_rfl) (
            .cons (d := some 17) (by kernel_rfl) (does_fieldAddr (s := 24) (x := .tmp 1) (f := 0) (k := 1) (off := 0) (d := 0) (by kernel_rfl) (by kernel_rfl) (by kernel_rfl)) <|
            .cons (d := some 18) (by kernel_rfl) (does_load (t := 3) (x := .tmp 17) (k := 1) (off := 0) (b := ⟨[.int .i64 x, .int .i64 y], 24, true, 2⟩) (v := .int .i64 x) (by kernel_rfl) (by kernel_rfl) (by kernel_rfl) (by kernel_rfl)) <|
            .cons (d := some 19) (by kernel_rfl) (does_bool (b' := true) (does_pure (v := .bool (decide (x ≤ 0))) (by kernel_rfl) (fun w => by kernel_rfl) (by kernel_rfl)) (h8)) <|
            .cons (d := some 20) (by kernel_rfl) (does_move (x := .tmp 19) (v := .bool true) (by kernel_rfl) (by kernel_rfl)) <|
            .cons (d := some 21) (by kernel_rfl) (does_fieldAddr (s := 24) (x := .tmp 1) (f := 1) (k := 1) (off := 0) (d := 1) (by kernel_rfl) (by kernel_rfl) (by kernel_rfl)) <|
            .cons (d := some 22) (by kernel_rfl) (does_load (t := 3) (x := .tmp 21) (k := 1) (off := 1) (b := ⟨[.int .i64 x, .int .i64 y], 24, true, 2⟩) (v := .int .i64 y) (by kernel_rfl) (by kernel_rfl) (by kernel_rfl) (by kernel_rfl)) <|
            .cons (d := some 23) (by kernel_rfl) (does_pure (v := .bool (decide (y > 0))) (by kernel_rfl) (fun w => by kernel_rfl) (by kernel_rfl)) <|
            .cons (d := some 24) (by kernel_rfl) (does_pick (c := .tmp 20) (x := .tmp 23) (y := .const (.bool false)) (b := true) (v := .bool (decide (y > 0))) (by kernel_rfl) (by kernel_rfl) (by kernel_rfl)) <|
            .cons (d := some 16) (by kernel_rfl) (does_assign (x := .tmp 24) (v := .bool (decide (y > 0))) (by kernel_rfl) (by kernel_rfl)) <|
            .nil _ _) ?_
        refine aw_weak (weak_b (T := [(1, .pointer (some ⟨1, 0, none⟩)), (2, .int .i64 0), (3, .bool ((x == 0) && ((y == 0) && true))), (7, .bool false), (16, .bool (decide (y > 0)))]) (L := [(1, ⟨[.int .i64 x, .int .i64 y], 24, true, 2⟩)]) (by kernel_rfl) (by kernel_rfl) (by kernel_rfl)) ?_
        refine aw_cond (o := .tmp 16) (b := decide (y > 0)) (x := sub (bodyOf Try.f92) [true, false, true, true, true, true, true, true, false]) (y := sub (bodyOf Try.f92) [true, false, true, true, true, true, true, true, true]) (by kernel_rfl) (by kernel_rfl) (fun h9 => ?_) (fun h9 => ?_)
        · have h9p : ((y > 0)) := by first | (simpa using h9) | (have h9q := h9; simp at h9q; omega) | (have h9q := bx1 h9; simp at h9q; omega)
          refine aw_plain_seq (r := sub (bodyOf Try.f92) [true, false, true, true, true, true, true, true, false, false]) (y := sub (bodyOf Try.f92) [true, false, true, true, true, true, true, true, false, true]) (id := 6) (ops := regOps (sub (bodyOf Try.f92) [true, false, true, true, true, true, true, true, false, false])) (by kernel_rfl) (by kernel_rfl) (by kernel_rfl) (by kernel_rfl) (
              .cons (d := some 2) (by kernel_rfl) (does_assign (x := .const (.int .i64 2)) (v := .int .i64 2) (by kernel_rfl) (by kernel_rfl)) <|
              .nil _ _) ?_
          refine aw_weak (weak_b (T := [(1, .pointer (some ⟨1, 0, none⟩)), (2, .int .i64 2), (3, .bool ((x == 0) && ((y == 0) && true))), (7, .bool false), (16, .bool (decide (y > 0)))]) (L := [(1, ⟨[.int .i64 x, .int .i64 y], 24, true, 2⟩)]) (by kernel_rfl) (by kernel_rfl) (by kernel_rfl)) ?_
          refine aw_ret (by kernel_rfl) ?_
          refine block_ret ?_
          refine then_ret ?_
          exact end_ret (vs := [.int .i64 2]) (by kernel_rfl) (show (.int .i64 2 : Value) = (.int .i64 (Sp.quarter x y)) from (congrArg (Value.int .i64) (show 2 = (Sp.quarter x y) from by (simp only [Sp.quarter]; (repeat' split) <;> omega)))) trivial
        · have h9p : ¬ ((y > 0)) := by first | (simpa using h9) | (have h9q := h9; simp at h9q; omega) | (have h9q := bx2 h9; simp at h9q; omega)
          refine aw_plain_seq (r := sub (bodyOf Try.f92) [true, false, true, true, true, true, true, true, true, false]) (y := sub (bodyOf Try.f92) [true, false, true, true, true, true, true, true, true, true]) (id := 7) (ops := regOps (sub (bodyOf Try.f92) [true, false, true, true, true, true, true, true, true, false])) (by kernel_rfl) (by kernel_rfl) (by kernel_rfl) (by kernel_rfl) (
              .cons (d := some 26) (by kernel_rfl) (does_fieldAddr (s := 24) (x := .tmp 1) (f := 0) (k := 1) (off := 0) (d := 0) (by kernel_rfl) (by kernel_rfl) (by kernel_rfl)) <|
              .cons (d := some 27) (by kernel_rfl) (does_load (t := 3) (x := .tmp 26) (k := 1) (off := 0) (b := ⟨[.int .i64 x, .int .i64 y], 24, true, 2⟩) (v := .int .i64 x) (by kernel_rfl) (by kernel_rfl) (by kernel_rfl) (by kernel_rfl)) <|
              .cons (d := some 28) (by kernel_rfl) (does_pure (v := .bool (decide (x < 0))) (by kernel_rfl) (fun w => by kernel_rfl) (by kernel_rfl)) <|
              .cons (d := some 25) (by kernel_rfl) (does_assign (x := .tmp 28) (v := .bool (decide (x < 0))) (by kernel_rfl) (by kernel_rfl)) <|
              .nil _ _) ?_
          refine aw_weak (weak_b (T := [(1, .pointer (some ⟨1, 0, none⟩)), (2, .int .i64 0), (3, .bool ((x == 0) && ((y == 0) && true))), (7, .bool false), (16, .bool (decide (y > 0))), (25, .bool (decide (x < 0)))]) (L := [(1, ⟨[.int .i64 x, .int .i64 y], 24, true, 2⟩)]) (by kernel_rfl) (by kernel_rfl) (by kernel_rfl)) ?_
          refine aw_cond (o := .tmp 25) (b := decide (x < 0)) (x := sub (bodyOf Try.f92) [true, false, true, true, true, true, true, true, true, true, false]) (y := sub (bodyOf Try.f92) [true, false, true, true, true, true, true, true, true, true, true]) (by kernel_rfl) (by kernel_rfl) (fun h10 => ?_) (fun h10 => ?_)
          · have h10p : ((x < 0)) := by first | (simpa using h10) | (have h10q := h10; simp at h10q; omega) | (have h10q := bx1 h10; simp at h10q; omega)
            refine aw_plain_seq (r := sub (bodyOf Try.f92) [true, false, true, true, true, true, true, true, true, true, false, false]) (y := sub (bodyOf Try.f92) [true, false, true, true, true, true, true, true, true, true, false, true]) (id := 8) (ops := regOps (sub (bodyOf Try.f92) [true, false, true, true, true, true, true, true, true, true, false, false])) (by kernel_rfl) (by kernel_rfl) (by kernel_rfl) (by kernel_rfl) (
                .cons (d := some 2) (by kernel_rfl) (does_assign (x := .const (.int .i64 3)) (v := .int .i64 3) (by kernel_rfl) (by kernel_rfl)) <|
                .nil _ _) ?_
            refine aw_weak (weak_b (T := [(1, .pointer (some ⟨1, 0, none⟩)), (2, .int .i64 3), (3, .bool ((x == 0) && ((y == 0) && true))), (7, .bool false), (16, .bool (decide (y > 0))), (25, .bool (decide (x < 0)))]) (L := [(1, ⟨[.int .i64 x, .int .i64 y], 24, true, 2⟩)]) (by kernel_rfl) (by kernel_rfl) (by kernel_rfl)) ?_
            refine aw_ret (by kernel_rfl) ?_
            refine block_ret ?_
            refine then_ret ?_
            exact end_ret (vs := [.int .i64 3]) (by kernel_rfl) (show (.int .i64 3 : Value) = (.int .i64 (Sp.quarter x y)) from (congrArg (Value.int .i64) (show 3 = (Sp.quarter x y) from by (simp only [Sp.quarter]; (repeat' split) <;> omega)))) trivial
          · have h10p : ¬ ((x < 0)) := by first | (simpa using h10) | (have h10q := h10; simp at h10q; omega) | (have h10q := bx2 h10; simp at h10q; omega)
            refine aw_skip (by kernel_rfl) ?_
            refine block_normal ?_
            refine then_normal ?_
            refine aw_plain_seq (r := sub (bodyOf Try.f92) [true, true, false]) (y := sub (bodyOf Try.f92) [true, true, true]) (id := 9) (ops := regOps (sub (bodyOf Try.f92) [true, true, false])) (by kernel_rfl) (by kernel_rfl) (by kernel_rfl) (by kernel_rfl) (
                .cons (d := some 2) (by kernel_rfl) (does_assign (x := .const (.int .i64 4)) (v := .int .i64 4) (by kernel_rfl) (by kernel_rfl)) <|
                .nil _ _) ?_
            refine aw_weak (weak_b (T := [(1, .pointer (some ⟨1, 0, none⟩)), (2, .int .i64 4), (3, .bool ((x == 0) && ((y == 0) && true))), (7, .bool false), (16, .bool (decide (y > 0))), (25, .bool (decide (x < 0)))]) (L := [(1, ⟨[.int .i64 x, .int .i64 y], 24, true, 2⟩)]) (by kernel_rfl) (by kernel_rfl) (by kernel_rfl)) ?_
            refine aw_ret (by kernel_rfl) ?_
            exact end_ret (vs := [.int .i64 4]) (by kernel_rfl) (show (.int .i64 4 : Value) = (.int .i64 (Sp.quarter x y)) from (congrArg (Value.int .i64) (show 4 = (Sp.quarter x y) from by (simp only [Sp.quarter]; (repeat' split) <;> omega)))) trivial
      · have h8p : ¬ ((x ≤ 0)) := by first | (simpa using h8) | (have h8q := h8; simp at h8q; omega) | (have h8q := bx2 h8; simp at h8q; omega)
        refine aw_plain_seq (r := sub (bodyOf Try.f92) [true, false, true, true, true, true, true, false]) (y := sub (bodyOf Try.f92) [true, false, true, true, true, true, true, true]) (id := 5) (ops := regOps (sub (bodyOf Try.f92) [true, false, true, true, true, true, true, false])) (by kernel_rfl) (by kernel_rfl) (by kernel_rfl) (by kernel_rfl) (
            .cons (d := some 17) (by kernel_rfl) (does_fieldAddr (s := 24) (x := .tmp 1) (f := 0) (k := 1) (off := 0) (d := 0) (by kernel_rfl) (by kernel_rfl) (by kernel_rfl)) <|
            .cons (d := some 18) (by kernel_rfl) (does_load (t := 3) (x := .tmp 17) (k := 1) (off := 0) (b := ⟨[.int .i64 x, .int .i64 y], 24, true, 2⟩) (v := .int .i64 x) (by kernel_rfl) (by kernel_rfl) (by kernel_rfl) (by kernel_rfl)) <|
            .cons (d := some 19) (by kernel_rfl) (does_bool (b' := false) (does_pure (v := .bool (decide (x ≤ 0))) (by kernel_rfl) (fun w => by kernel_rfl) (by kernel_rfl)) (h8)) <|
            .cons (d := some 20) (by kernel_rfl) (does_move (x := .tmp 19) (v := .bool false) (by kernel_rfl) (by kernel_rfl)) <|
            .cons (d := some 21) (by kernel_rfl) (does_skipB (by kernel_rfl)) <|
            .cons (d := some 22) (by kernel_rfl) (does_skipB (by kernel_rfl)) <|
            .cons (d := some 23) (by kernel_rfl) (does_skipB (by kernel_rfl)) <|
            .cons (d := some 24) (by kernel_rfl) (does_pick (c := .tmp 20) (x := .tmp 23) (y := .const (.bool false)) (b := false) (v := .bool false) (by kernel_rfl) (by kernel_rfl) (by kernel_rfl)) <|
            .cons (d := some 16) (by kernel_rfl) (does_assign (x := .tmp 24) (v := .bool false) (by kernel_rfl) (by kernel_rfl)) <|
            .nil _ _) ?_
        refine aw_weak (weak_b (T := [(1, .pointer (some ⟨1, 0, none⟩)), (2, .int .i64 0), (3, .bool ((x == 0) && ((y == 0) && true))), (7, .bool false), (16, .bool false)]) (L := [(1, ⟨[.int .i64 x, .int .i64 y], 24, true, 2⟩)]) (by kernel_rfl) (by kernel_rfl) (by kernel_rfl)) ?_
        refine aw_false (o := .tmp 16) (x := sub (bodyOf Try.f92) [true, false, true, true, true, true, true, true, false]) (y := sub (bodyOf Try.f92) [true, false, true, true, true, true, true, true, true]) (by kernel_rfl) (by kernel_rfl) ?_
        refine aw_plain_seq (r := sub (bodyOf Try.f92) [true, false, true, true, true, true, true, true, true, false]) (y := sub (bodyOf Try.f92) [true, false, true, true, true, true, true, true, true, true]) (id := 7) (ops := regOps (sub (bodyOf Try.f92) [true, false, true, true, true, true, true, true, true, false])) (by kernel_rfl) (by kernel_rfl) (by kernel_rfl) (by kernel_rfl) (
            .cons (d := some 26) (by kernel_rfl) (does_fieldAddr (s := 24) (x := .tmp 1) (f := 0) (k := 1) (off := 0) (d := 0) (by kernel_rfl) (by kernel_rfl) (by kernel_rfl)) <|
            .cons (d := some 27) (by kernel_rfl) (does_load (t := 3) (x := .tmp 26) (k := 1) (off := 0) (b := ⟨[.int .i64 x, .int .i64 y], 24, true, 2⟩) (v := .int .i64 x) (by kernel_rfl) (by kernel_rfl) (by kernel_rfl) (by kernel_rfl)) <|
            .cons (d := some 28) (by kernel_rfl) (does_pure (v := .bool (decide (x < 0))) (by kernel_rfl) (fun w => by kernel_rfl) (by kernel_rfl)) <|
            .cons (d := some 25) (by kernel_rfl) (does_assign (x := .tmp 28) (v := .bool (decide (x < 0))) (by kernel_rfl) (by kernel_rfl)) <|
            .nil _ _) ?_
        refine aw_weak (weak_b (T := [(1, .pointer (some ⟨1, 0, none⟩)), (2, .int .i64 0), (3, .bool ((x == 0) && ((y == 0) && true))), (7, .bool false), (16, .bool false), (25, .bool (decide (x < 0)))]) (L := [(1, ⟨[.int .i64 x, .int .i64 y], 24, true, 2⟩)]) (by kernel_rfl) (by kernel_rfl) (by kernel_rfl)) ?_
        refine aw_cond (o := .tmp 25) (b := decide (x < 0)) (x := sub (bodyOf Try.f92) [true, false, true, true, true, true, true, true, true, true, false]) (y := sub (bodyOf Try.f92) [true, false, true, true, true, true, true, true, true, true, true]) (by kernel_rfl) (by kernel_rfl) (fun h11 => ?_) (fun h11 => ?_)
        · have h11p : ((x < 0)) := by first | (simpa using h11) | (have h11q := h11; simp at h11q; omega) | (have h11q := bx1 h11; simp at h11q; omega)
          refine aw_plain_seq (r := sub (bodyOf Try.f92) [true, false, true, true, true, true, true, true, true, true, false, false]) (y := sub (bodyOf Try.f92) [true, false, true, true, true, true, true, true, true, true, false, true]) (id := 8) (ops := regOps (sub (bodyOf Try.f92) [true, false, true, true, true, true, true, true, true, true, false, false])) (by kernel_rfl) (by kernel_rfl) (by kernel_rfl) (by kernel_rfl) (
              .cons (d := some 2) (by kernel_rfl) (does_assign (x := .const (.int .i64 3)) (v := .int .i64 3) (by kernel_rfl) (by kernel_rfl)) <|
              .nil _ _) ?_
          refine aw_weak (weak_b (T := [(1, .pointer (some ⟨1, 0, none⟩)), (2, .int .i64 3), (3, .bool ((x == 0) && ((y == 0) && true))), (7, .bool false), (16, .bool false), (25, .bool (decide (x < 0)))]) (L := [(1, ⟨[.int .i64 x, .int .i64 y], 24, true, 2⟩)]) (by kernel_rfl) (by kernel_rfl) (by kernel_rfl)) ?_
          refine aw_ret (by kernel_rfl) ?_
          refine block_ret ?_
          refine then_ret ?_
          exact end_ret (vs := [.int .i64 3]) (by kernel_rfl) (show (.int .i64 3 : Value) = (.int .i64 (Sp.quarter x y)) from (congrArg (Value.int .i64) (show 3 = (Sp.quarter x y) from by (simp only [Sp.quarter]; (repeat' split) <;> omega)))) trivial
        · have h11p : ¬ ((x < 0)) := by first | (simpa using h11) | (have h11q := h11; simp at h11q; omega) | (have h11q := bx2 h11; simp at h11q; omega)
          refine aw_skip (by kernel_rfl) ?_
          refine block_normal ?_
          refine then_normal ?_
          refine aw_plain_seq (r := sub (bodyOf Try.f92) [true, true, false]) (y := sub (bodyOf Try.f92) [true, true, true]) (id := 9) (ops := regOps (sub (bodyOf Try.f92) [true, true, false])) (by kernel_rfl) (by kernel_rfl) (by kernel_rfl) (by kernel_rfl) (
              .cons (d := some 2) (by kernel_rfl) (does_assign (x := .const (.int .i64 4)) (v := .int .i64 4) (by kernel_rfl) (by kernel_rfl)) <|
              .nil _ _) ?_
          refine aw_weak (weak_b (T := [(1, .pointer (some ⟨1, 0, none⟩)), (2, .int .i64 4), (3, .bool ((x == 0) && ((y == 0) && true))), (7, .bool false), (16, .bool false), (25, .bool (decide (x < 0)))]) (L := [(1, ⟨[.int .i64 x, .int .i64 y], 24, true, 2⟩)]) (by kernel_rfl) (by kernel_rfl) (by kernel_rfl)) ?_
          refine aw_ret (by kernel_rfl) ?_
          exact end_ret (vs := [.int .i64 4]) (by kernel_rfl) (show (.int .i64 4 : Value) = (.int .i64 (Sp.quarter x y)) from (congrArg (Value.int .i64) (show 4 = (Sp.quarter x y) from by (simp only [Sp.quarter]; (repeat' split) <;> omega)))) trivial

theorem rround_ok (dx dy e_x e_y : Int) :
    AC Try.prog 60 0 ([.agg #[.int .i64 dx, .int .i64 dy], .agg #[.int .i64 e_x, .int .i64 e_y]]) [] (.int .i64 (Sp.angle (Sp.lim 2097152 dx) (Sp.lim 2097152 dy) (Sp.lim 2097152 e_x) (Sp.lim 2097152 e_y))) [] := by
  have qdx := Sp.lim_bd (m := 2097152) (by decide) dx; have qdy := Sp.lim_bd (m := 2097152) (by decide) dy; have qe_x := Sp.lim_bd (m := 2097152) (by decide) e_x; have qe_y := Sp.lim_bd (m := 2097152) (by decide) e_y; have p0 := Sp.mul_bd (a := (Sp.lim 2097152 dy)) (b := (Sp.lim 2097152 e_x)) (A := 2097152) (B := 2097152) (by omega) (by omega) (by omega) (by omega); have p1 := Sp.mul_bd (a := (Sp.lim 2097152 dx)) (b := (Sp.lim 2097152 e_y)) (A := 2097152) (B := 2097152) (by omega) (by omega) (by omega) (by omega); have k1 := Sp.quarter_bd (Sp.lim 2097152 dx) (Sp.lim 2097152 dy); have k2 := Sp.quarter_bd (Sp.lim 2097152 e_x) (Sp.lim 2097152 e_y)
  refine ac_intro (fn := Try.f60) (c := bodyOf Try.f60) Try.func60 (by kernel_rfl) (by kernel_rfl) (by kernel_rfl) ?_
  intro w0 W pin
  refine aw_sub ?_
  refine aw_plain_seq (r := sub (bodyOf Try.f60) [false]) (y := sub (bodyOf Try.f60) [true]) (id := 0) (ops := regOps (sub (bodyOf Try.f60) [false])) (by kernel_rfl) (by kernel_rfl) (by kernel_rfl) (by kernel_rfl) (
      .cons (d := some 2) (by kernel_rfl) (does_box (t := 24) (x := .tmp 0) (k := 1) (v := .agg #[.int .i64 dx, .int .i64 dy]) (cells := [.int .i64 dx, .int .i64 dy]) (by kernel_rfl) (by kernel_rfl) (by kernel_rfl) (by kernel_rfl)) <|
      .cons (d := some 3) (by kernel_rfl) (does_box (t := 24) (x := .tmp 1) (k := 2) (v := .agg #[.int .i64 e_x, .int .i64 e_y]) (cells := [.int .i64 e_x, .int .i64 e_y]) (by kernel_rfl) (by kernel_rfl) (by kernel_rfl) (by kernel_rfl)) <|
      .cons (d := some 4) (by kernel_rfl) (does_assign (x := .const (.int .i64 0)) (v := .int .i64 0) (by kernel_rfl) (by kernel_rfl)) <|
      .nil _ _) ?_
  refine aw_weak (weak_b (T := [(2, .pointer (some ⟨1, 0, none⟩)), (3, .pointer (some ⟨2, 0, none⟩)), (4, .int .i64 0)]) (L := [(1, ⟨[.int .i64 dx, .int .i64 dy], 24, true, 2⟩), (2, ⟨[.int .i64 e_x, .int .i64 e_y], 24, true, 2⟩)]) (by kernel_rfl) (by kernel_rfl) (by kernel_rfl)) ?_
  refine aw_plain_seq (r := sub (bodyOf Try.f60) [true, false]) (y := sub (bodyOf Try.f60) [true, true]) (id := 1) (ops := regOps (sub (bodyOf Try.f60) [true, false])) (by kernel_rfl) (by kernel_rfl) (by kernel_rfl) (by kernel_rfl) (
      .cons (d := some 5) (by kernel_rfl) (does_assign (x := .func 92) (v := .func (.func 92) #[] #[]) (by kernel_rfl) (by kernel_rfl)) <|
      .nil _ _) ?_
  refine aw_weak (weak_b (T := [(2, .pointer (some ⟨1, 0, none⟩)), (3, .pointer (some ⟨2, 0, none⟩)), (4, .int .i64 0), (5, .func (.func 92) #[] #[])]) (L := [(1, ⟨[.int .i64 dx, .int .i64 dy], 24, true, 2⟩), (2, ⟨[.int .i64 e_x, .int .i64 e_y], 24, true, 2⟩)]) (by kernel_rfl) (by kernel_rfl) (by kernel_rfl)) ?_
  refine aw_draws_seq (r := sub (bodyOf Try.f60) [true, true, false]) (y := sub (bodyOf Try.f60) [true, true, true]) (id := 2) (ops := regOps (sub (bodyOf Try.f60) [true, true, false])) [[], [0], [0, 1], [], [3], [0, 1, 2, 3, 4], [0, 1, 2, 3, 4, 5], [0, 1, 2, 3, 4, 5, 6]] (by kernel_rfl) (by kernel_rfl) (by kernel_rfl) (by kernel_rfl) (by kernel_rfl) (by kernel_rfl) (
      .cons (d := some 7) (by kernel_rfl) (does_fieldAddr (s := 24) (x := .tmp 2) (f := 0) (k := 1) (off := 0) (d := 0) (by kernel_rfl) (by kernel_rfl) (by kernel_rfl)) <|
      .cons (d := some 8) (by kernel_rfl) (does_load (t := 3) (x := .tmp 7) (k := 1) (off := 0) (b := ⟨[.int .i64 dx, .int .i64 dy], 24, true, 2⟩) (v := .int .i64 dx) (by kernel_rfl) (by kernel_rfl) (by kernel_rfl) (by kernel_rfl)) <|
      .cons (d := some 9) (by kernel_rfl) (does_call0 (x := .func 74) (ars := #[.tmp 8, .const (.int .i64 2097152)]) (ats := #[3, 3]) (g := 74) (vs := [.int .i64 dx, .int .i64 2097152]) (v := .int .i64 (Sp.lim 2097152 dx)) (by kernel_rfl) (by kernel_rfl) (by kernel_rfl) (by kernel_rfl) (rwithin_ok dx 2097152 (by decide) (by decide)) (by kernel_rfl) (by kernel_rfl)) <|
      .cons (d := some 10) (by kernel_rfl) (does_fieldAddr (s := 24) (x := .tmp 2) (f := 1) (k := 1) (off := 0) (d := 1) (by kernel_rfl) (by kernel_rfl) (by kernel_rfl)) <|
      .cons (d := some 11) (by kernel_rfl) (does_load (t := 3) (x := .tmp 10) (k := 1) (off := 1) (b := ⟨[.int .i64 dx, .int .i64 dy], 24, true, 2⟩) (v := .int .i64 dy) (by kernel_rfl) (by kernel_rfl) (by kernel_rfl) (by kernel_rfl)) <|
      .cons (d := some 12) (by kernel_rfl) (does_call0 (x := .func 74) (ars := #[.tmp 11, .const (.int .i64 2097152)]) (ats := #[3, 3]) (g := 74) (vs := [.int .i64 dy, .int .i64 2097152]) (v := .int .i64 (Sp.lim 2097152 dy)) (by kernel_rfl) (by kernel_rfl) (by kernel_rfl) (by kernel_rfl) (rwithin_ok dy 2097152 (by decide) (by decide)) (by kernel_rfl) (by kernel_rfl)) <|
      .cons (d := some 13) (by kernel_rfl) (does_pure (v := .agg #[.int .i64 (Sp.lim 2097152 dx), .int .i64 (Sp.lim 2097152 dy)]) (by kernel_rfl) (fun w => by kernel_rfl) (by kernel_rfl)) <|
      .cons (d := none) (by kernel_rfl) (does_store (t := 24) (x := .tmp 2) (y := .tmp 13) (k := 1) (off := 0) (b := ⟨[.int .i64 dx, .int .i64 dy], 24, true, 2⟩) (v := .agg #[.int .i64 (Sp.lim 2097152 dx), .int .i64 (Sp.lim 2097152 dy)]) (cells := [.int .i64 (Sp.lim 2097152 dx), .int .i64 (Sp.lim 2097152 dy)]) (by kernel_rfl) (by kernel_rfl) (by kernel_rfl) (by kernel_rfl) rfl (by kernel_rfl) (by kernel_rfl) (by kernel_rfl) (by kernel_rfl)) <|
      .nil _ _) ?_
  refine aw_weak (weak_b (T := [(2, .pointer (some ⟨1, 0, none⟩)), (3, .pointer (some ⟨2, 0, none⟩)), (4, .int .i64 0), (5, .func (.func 92) #[] #[])]) (L := [(1, ⟨[.int .i64 (Sp.lim 2097152 dx), .int .i64 (Sp.lim 2097152 dy)], 24, true, 2⟩), (2, ⟨[.int .i64 e_x, .int .i64 e_y], 24, true, 2⟩)]) (by kernel_rfl) (by kernel_rfl) (by kernel_rfl)) ?_
  refine aw_draws_seq (r := sub (bodyOf Try.f60) [true, true, true, false]) (y := sub (bodyOf Try.f60) [true, true, true, true]) (id := 3) (ops := regOps (sub (bodyOf Try.f60) [true, true, true, false])) [[], [0], [0, 1], [], [3], [0, 1, 2, 3, 4], [0, 1, 2, 3, 4, 5], [0, 1, 2, 3, 4, 5, 6]] (by kernel_rfl) (by kernel_rfl) (by kernel_rfl) (by kernel_rfl) (by kernel_rfl) (by kernel_rfl) (
      .cons (d := some 14) (by kernel_rfl) (does_fieldAddr (s := 24) (x := .tmp 3) (f := 0) (k := 2) (off := 0) (d := 0) (by kernel_rfl) (by kernel_rfl) (by kernel_rfl)) <|
      .cons (d := some 15) (by kernel_rfl) (does_load (t := 3) (x := .tmp 14) (k := 2) (off := 0) (b := ⟨[.int .i64 e_x, .int .i64 e_y], 24, true, 2⟩) (v := .int .i64 e_x) (by kernel_rfl) (by kernel_rfl) (by kernel_rfl) (by kernel_rfl)) <|
      .cons (d := some 16) (by kernel_rfl) (does_call0 (x := .func 74) (ars := #[.tmp 15, .const (.int .i64 2097152)]) (ats := #[3, 3]) (g := 74) (vs := [.int .i64 e_x, .int .i64 2097152]) (v := .int .i64 (Sp.lim 2097152 e_x)) (by kernel_rfl) (by kernel_rfl) (by kernel_rfl) (by kernel_rfl) (rwithin_ok e_x 2097152 (by decide) (by decide)) (by kernel_rfl) (by kernel_rfl)) <|
      .cons (d := some 17) (by kernel_rfl) (does_fieldAddr (s := 24) (x := .tmp 3) (f := 1) (k := 2) (off := 0) (d := 1) (by kernel_rfl) (by kernel_rfl) (by kernel_rfl)) <|
      .cons (d := some 18) (by kernel_rfl) (does_load (t := 3) (x := .tmp 17) (k := 2) (off := 1) (b := ⟨[.int .i64 e_x, .int .i64 e_y], 24, true, 2⟩) (v := .int .i64 e_y) (by kernel_rfl) (by kernel_rfl) (by kernel_rfl) (by kernel_rfl)) <|
      .cons (d := some 19) (by kernel_rfl) (does_call0 (x := .func 74) (ars := #[.tmp 18, .const (.int .i64 2097152)]) (ats := #[3, 3]) (g := 74) (vs := [.int .i64 e_y, .int .i64 2097152]) (v := .int .i64 (Sp.lim 2097152 e_y)) (by kernel_rfl) (by kernel_rfl) (by kernel_rfl) (by kernel_rfl) (rwithin_ok e_y 2097152 (by decide) (by decide)) (by kernel_rfl) (by kernel_rfl)) <|
      .cons (d := some 20) (by kernel_rfl) (does_pure (v := .agg #[.int .i64 (Sp.lim 2097152 e_x), .int .i64 (Sp.lim 2097152 e_y)]) (by kernel_rfl) (fun w => by kernel_rfl) (by kernel_rfl)) <|
      .cons (d := none) (by kernel_rfl) (does_store (t := 24) (x := .tmp 3) (y := .tmp 20) (k := 2) (off := 0) (b := ⟨[.int .i64 e_x, .int .i64 e_y], 24, true, 2⟩) (v := .agg #[.int .i64 (Sp.lim 2097152 e_x), .int .i64 (Sp.lim 2097152 e_y)]) (cells := [.int .i64 (Sp.lim 2097152 e_x), .int .i64 (Sp.lim 2097152 e_y)]) (by kernel_rfl) (by kernel_rfl) (by kernel_rfl) (by kernel_rfl) rfl (by kernel_rfl) (by kernel_rfl) (by kernel_rfl) (by kernel_rfl)) <|
      .nil _ _) ?_
  refine aw_weak (weak_b (T := [(2, .pointer (some ⟨1, 0, none⟩)), (3, .pointer (some ⟨2, 0, none⟩)), (4, .int .i64 0), (5, .func (.func 92) #[] #[])]) (L := [(1, ⟨[.int .i64 (Sp.lim 2097152 dx), .int .i64 (Sp.lim 2097152 dy)], 24, true, 2⟩), (2, ⟨[.int .i64 (Sp.lim 2097152 e_x), .int .i64 (Sp.lim 2097152 e_y)], 24, true, 2⟩)]) (by kernel_rfl) (by kernel_rfl) (by kernel_rfl)) ?_
  refine aw_seq (x := sub (bodyOf Try.f60) [true, true, true, true, false]) (y := sub (bodyOf Try.f60) [true, true, true, true, true]) (by kernel_rfl) ?_
  refine aw_draws_seq (r := sub (bodyOf Try.f60) [true, true, true, true, false, false]) (y := sub (bodyOf Try.f60) [true, true, true, true, false, true]) (id := 4) (ops := regOps (sub (bodyOf Try.f60) [true, true, true, true, false, false])) [[], [], [0, 1], [], [], [0, 1, 2, 3, 4], [0, 1, 2, 3, 4, 5], [0, 1, 2, 3, 4, 5, 6]] (by kernel_rfl) (by kernel_rfl) (by kernel_rfl) (by kernel_rfl) (by kernel_rfl) (by kernel_rfl) (
      .cons (d := some 21) (by kernel_rfl) (does_move (x := .tmp 5) (v := .func (.func 92) #[] #[]) (by kernel_rfl) (by kernel_rfl)) <|
      .cons (d := some 22) (by kernel_rfl) (does_load (t := 24) (x := .tmp 2) (k := 1) (off := 0) (b := ⟨[.int .i64 (Sp.lim 2097152 dx), .int .i64 (Sp.lim 2097152 dy)], 24, true, 2⟩) (v := .agg #[.int .i64 (Sp.lim 2097152 dx), .int .i64 (Sp.lim 2097152 dy)]) (by kernel_rfl) (by kernel_rfl) (by kernel_rfl) (by kernel_rfl)) <|
      .cons (d := some 23) (by kernel_rfl) (does_call0 (x := .tmp 21) (ars := #[.tmp 22]) (ats := #[24]) (g := 92) (vs := [.agg #[.int .i64 (Sp.lim 2097152 dx), .int .i64 (Sp.lim 2097152 dy)]]) (v := .int .i64 (Sp.quarter (Sp.lim 2097152 dx) (Sp.lim 2097152 dy))) (by kernel_rfl) (by kernel_rfl) (by kernel_rfl) (by kernel_rfl) (rquarter_ok (Sp.lim 2097152 dx) (Sp.lim 2097152 dy)) (by kernel_rfl) (by kernel_rfl)) <|
      .cons (d := some 24) (by kernel_rfl) (does_move (x := .tmp 5) (v := .func (.func 92) #[] #[]) (by kernel_rfl) (by kernel_rfl)) <|
      .cons (d := some 25) (by kernel_rfl) (does_load (t := 24) (x := .tmp 3) (k := 2) (off := 0) (b := ⟨[.int .i64 (Sp.lim 2097152 e_x), .int .i64 (Sp.lim 2097152 e_y)], 24, true, 2⟩) (v := .agg #[.int .i64 (Sp.lim 2097152 e_x), .int .i64 (Sp.lim 2097152 e_y)]) (by kernel_rfl) (by kernel_rfl) (by kernel_rfl) (by kernel_rfl)) <|
      .cons (d := some 26) (by kernel_rfl) (does_call0 (x := .tmp 24) (ars := #[.tmp 25]) (ats := #[24]) (g := 92) (vs := [.agg #[.int .i64 (Sp.lim 2097152 e_x), .int .i64 (Sp.lim 2097152 e_y)]]) (v := .int .i64 (Sp.quarter (Sp.lim 2097152 e_x) (Sp.lim 2097152 e_y))) (by kernel_rfl) (by kernel_rfl) (by kernel_rfl) (by kernel_rfl) (rquarter_ok (Sp.lim 2097152 e_x) (Sp.lim 2097152 e_y)) (by kernel_rfl) (by kernel_rfl)) <|
      .cons (d := some 27) (by kernel_rfl) (does_int (n' := (Sp.quarter (Sp.lim 2097152 dx) (Sp.lim 2097152 dy)) - (Sp.quarter (Sp.lim 2097152 e_x) (Sp.lim 2097152 e_y))) (does_pure (v := .int .i64 (IntKind.wrap .i64 ((Sp.quarter (Sp.lim 2097152 dx) (Sp.lim 2097152 dy)) - (Sp.quarter (Sp.lim 2097152 e_x) (Sp.lim 2097152 e_y))))) (by kernel_rfl) (fun w => by kernel_rfl) (by kernel_rfl)) (wrap_i64 (by omega) (by omega))) <|
      .cons (d := some 6) (by kernel_rfl) (does_assign (x := .tmp 27) (v := .int .i64 ((Sp.quarter (Sp.lim 2097152 dx) (Sp.lim 2097152 dy)) - (Sp.quarter (Sp.lim 2097152 e_x) (Sp.lim 2097152 e_y)))) (by kernel_rfl) (by kernel_rfl)) <|
      .nil _ _) ?_
  refine aw_weak (weak_b (T := [(2, .pointer (some ⟨1, 0, none⟩)), (3, .pointer (some ⟨2, 0, none⟩)), (4, .int .i64 0), (6, .int .i64 ((Sp.quarter (Sp.lim 2097152 dx) (Sp.lim 2097152 dy)) - (Sp.quarter (Sp.lim 2097152 e_x) (Sp.lim 2097152 e_y))))]) (L := [(1, ⟨[.int .i64 (Sp.lim 2097152 dx), .int .i64 (Sp.lim 2097152 dy)], 24, true, 2⟩), (2, ⟨[.int .i64 (Sp.lim 2097152 e_x), .int .i64 (Sp.lim 2097152 e_y)], 24, true, 2⟩)]) (by kernel_rfl) (by kernel_rfl) (by kernel_rfl)) ?_
  refine aw_plain_seq (r := sub (bodyOf Try.f60) [true, true, true, true, false, true, false]) (y := sub (bodyOf Try.f60) [true, true, true, true, false, true, true]) (id := 5) (ops := regOps (sub (bodyOf Try.f60) [true, true, true, true, false, true, false])) (by kernel_rfl) (by kernel_rfl) (by kernel_rfl) (by kernel_rfl) (
      .cons (d := some 28) (by kernel_rfl) (does_move (x := .tmp 6) (v := .int .i64 ((Sp.quarter (Sp.lim 2097152 dx) (Sp.lim 2097152 dy)) - (Sp.quarter (Sp.lim 2097152 e_x) (Sp.lim 2097152 e_y)))) (by kernel_rfl) (by kernel_rfl)) <|
      .cons (d := some 29) (by kernel_rfl) (does_pure (v := .bool (((Sp.quarter (Sp.lim 2097152 dx) (Sp.lim 2097152 dy)) - (Sp.quarter (Sp.lim 2097152 e_x) (Sp.lim 2097152 e_y))) != 0)) (by kernel_rfl) (fun w => by kernel_rfl) (by kernel_rfl)) <|
      .nil _ _) ?_
  refine aw_weak (weak_b (T := [(2, .pointer (some ⟨1, 0, none⟩)), (3, .pointer (some ⟨2, 0, none⟩)), (4, .int .i64 0), (6, .int .i64 ((Sp.quarter (Sp.lim 2097152 dx) (Sp.lim 2097152 dy)) - (Sp.quarter (Sp.lim 2097152 e_x) (Sp.lim 2097152 e_y)))), (29, .bool (((Sp.quarter (Sp.lim 2097152 dx) (Sp.lim 2097152 dy)) - (Sp.quarter (Sp.lim 2097152 e_x) (Sp.lim 2097152 e_y))) != 0))]) (L := [(1, ⟨[.int .i64 (Sp.lim 2097152 dx), .int .i64 (Sp.lim 2097152 dy)], 24, true, 2⟩), (2, ⟨[.int .i64 (Sp.lim 2097152 e_x), .int .i64 (Sp.lim 2097152 e_y)], 24, true, 2⟩)]) (by kernel_rfl) (by kernel_rfl) (by kernel_rfl)) ?_
  refine aw_cond (o := .tmp 29) (b := ((Sp.quarter (Sp.lim 2097152 dx) (Sp.lim 2097152 dy)) - (Sp.quarter (Sp.lim 2097152 e_x) (Sp.lim 2097152 e_y))) != 0) (x := sub (bodyOf Try.f60) [true, true, true, true, false, true, true, false]) (y := sub (bodyOf Try.f60) [true, true, true, true, false, true, true, true]) (by kernel_rfl) (by kernel_rfl) (fun h1 => ?_) (fun h1 => ?_)
  · have h1p : (¬ (((Sp.quarter (Sp.lim 2097152 dx) (Sp.lim 2097152 dy)) - (Sp.quarter (Sp.lim 2097152 e_x) (Sp.lim 2097152 e_y))) = 0)) := by first | (simpa using h1) | (have h1q := h1; simp at h1q; omega) | (have h1q := bx1 h1; simp at h1q; omega)
    refine aw_plain_seq (r := sub (bodyOf Try.f60) [true, true, true, true, false, true, true, false, false]) (y := sub (bodyOf Try.f60) [true, true, true, true, false, true, true, false, true]) (id := 6) (ops := regOps (sub (bodyOf Try.f60) [true, true, true, true, false, true, true, false, false])) (by kernel_rfl) (by kernel_rfl) (by kernel_rfl) (by kernel_rfl) (
        .cons (d := some 30) (by kernel_rfl) (does_move (x := .tmp 6) (v := .int .i64 ((Sp.quarter (Sp.lim 2097152 dx) (Sp.lim 2097152 dy)) - (Sp.quarter (Sp.lim 2097152 e_x) (Sp.lim 2097152 e_y)))) (by kernel_rfl) (by kernel_rfl)) <|
        .cons (d := some 31) (by kernel_rfl) (does_call0 (x := .func 93) (ars := #[.tmp 30]) (ats := #[3]) (g := 93) (vs := [.int .i64 ((Sp.quarter (Sp.lim 2097152 dx) (Sp.lim 2097152 dy)) - (Sp.quarter (Sp.lim 2097152 e_x) (Sp.lim 2097152 e_y)))]) (v := .int .i64 (Sp.sgn ((Sp.quarter (Sp.lim 2097152 dx) (Sp.lim 2097152 dy)) - (Sp.quarter (Sp.lim 2097152 e_x) (Sp.lim 2097152 e_y))))) (by kernel_rfl) (by kernel_rfl) (by kernel_rfl) (by kernel_rfl) (rsign_ok ((Sp.quarter (Sp.lim 2097152 dx) (Sp.lim 2097152 dy)) - (Sp.quarter (Sp.lim 2097152 e_x) (Sp.lim 2097152 e_y)))) (by kernel_rfl) (by kernel_rfl)) <|
        .cons (d := some 4) (by kernel_rfl) (does_assign (x := .tmp 31) (v := .int .i64 (Sp.sgn ((Sp.quarter (Sp.lim 2097152 dx) (Sp.lim 2097152 dy)) - (Sp.quarter (Sp.lim 2097152 e_x) (Sp.lim 2097152 e_y))))) (by kernel_rfl) (by kernel_rfl)) <|
        .nil _ _) ?_
    refine aw_weak (weak_b (T := [(2, .pointer (some ⟨1, 0, none⟩)), (3, .pointer (some ⟨2, 0, none⟩)), (4, .int .i64 (Sp.sgn ((Sp.quarter (Sp.lim 2097152 dx) (Sp.lim 2097152 dy)) - (Sp.quarter (Sp.lim 2097152 e_x) (Sp.lim 2097152 e_y))))), (6, .int .i64 ((Sp.quarter (Sp.lim 2097152 dx) (Sp.lim 2097152 dy)) - (Sp.quarter (Sp.lim 2097152 e_x) (Sp.lim 2097152 e_y)))), (29, .bool (((Sp.quarter (Sp.lim 2097152 dx) (Sp.lim 2097152 dy)) - (Sp.quarter (Sp.lim 2097152 e_x) (Sp.lim 2097152 e_y))) != 0))]) (L := [(1, ⟨[.int .i64 (Sp.lim 2097152 dx), .int .i64 (Sp.lim 2097152 dy)], 24, true, 2⟩), (2, ⟨[.int .i64 (Sp.lim 2097152 e_x), .int .i64 (Sp.lim 2097152 e_y)], 24, true, 2⟩)]) (by kernel_rfl) (by kernel_rfl) (by kernel_rfl)) ?_
    refine aw_ret (by kernel_rfl) ?_
    refine then_ret ?_
    exact end_ret (vs := [.int .i64 (Sp.sgn ((Sp.quarter (Sp.lim 2097152 dx) (Sp.lim 2097152 dy)) - (Sp.quarter (Sp.lim 2097152 e_x) (Sp.lim 2097152 e_y))))]) (by kernel_rfl) (show (.int .i64 (Sp.sgn ((Sp.quarter (Sp.lim 2097152 dx) (Sp.lim 2097152 dy)) - (Sp.quarter (Sp.lim 2097152 e_x) (Sp.lim 2097152 e_y)))) : Value) = (.int .i64 (Sp.angle (Sp.lim 2097152 dx) (Sp.lim 2097152 dy) (Sp.lim 2097152 e_x) (Sp.lim 2097152 e_y))) from (congrArg (Value.int .i64) (show (Sp.sgn ((Sp.quarter (Sp.lim 2097152 dx) (Sp.lim 2097152 dy)) - (Sp.quarter (Sp.lim 2097152 e_x) (Sp.lim 2097152 e_y)))) = (Sp.angle (Sp.lim 2097152 dx) (Sp.lim 2097152 dy) (Sp.lim 2097152 e_x) (Sp.lim 2097152 e_y)) from by (first | exact (Sp.angle_ne (by omega)).symm | exact (Sp.angle_eq (by omega)).symm)))) trivial
  · have h1p : ¬ (¬ (((Sp.quarter (Sp.lim 2097152 dx) (Sp.lim 2097152 dy)) - (Sp.quarter (Sp.lim 2097152 e_x) (Sp.lim 2097152 e_y))) = 0)) := by first | (simpa using h1) | (have h1q := h1; simp at h1q; omega) | (have h1q := bx2 h1; simp at h1q; omega)
    refine aw_skip (by kernel_rfl) ?_
    refine then_normal ?_
    refine aw_plain_seq (r := sub (bodyOf Try.f60) [true, true, true, true, true, false]) (y := sub (bodyOf Try.f60) [true, true, true, true, true, true]) (id := 7) (ops := regOps (sub (bodyOf Try.f60) [true, true, true, true, true, false])) (by kernel_rfl) (by kernel_rfl) (by kernel_rfl) (by kernel_rfl) (
        .cons (d := some 32) (by kernel_rfl) (does_fieldAddr (s := 24) (x := .tmp 2) (f := 1) (k := 1) (off := 0) (d := 1) (by kernel_rfl) (by kernel_rfl) (by kernel_rfl)) <|
        .cons (d := some 33) (by kernel_rfl) (does_load (t := 3) (x := .tmp 32) (k := 1) (off := 1) (b := ⟨[.int .i64 (Sp.lim 2097152 dx), .int .i64 (Sp.lim 2097152 dy)], 24, true, 2⟩) (v := .int .i64 (Sp.lim 2097152 dy)) (by kernel_rfl) (by kernel_rfl) (by kernel_rfl) (by kernel_rfl)) <|
        .cons (d := some 34) (by kernel_rfl) (does_fieldAddr (s := 24) (x := .tmp 3) (f := 0) (k := 2) (off := 0) (d := 0) (by kernel_rfl) (by kernel_rfl) (by kernel_rfl)) <|
        .cons (d := some 35) (by kernel_rfl) (does_load (t := 3) (x := .tmp 34) (k := 2) (off := 0) (b := ⟨[.int .i64 (Sp.lim 2097152 e_x), .int .i64 (Sp.lim 2097152 e_y)], 24, true, 2⟩) (v := .int .i64 (Sp.lim 2097152 e_x)) (by kernel_rfl) (by kernel_rfl) (by kernel_rfl) (by kernel_rfl)) <|
        .cons (d := some 36) (by kernel_rfl) (does_int (n' := (Sp.lim 2097152 dy) * (Sp.lim 2097152 e_x)) (does_pure (v := .int .i64 (IntKind.wrap .i64 ((Sp.lim 2097152 dy) * (Sp.lim 2097152 e_x)))) (by kernel_rfl) (fun w => by kernel_rfl) (by kernel_rfl)) (wrap_i64 (by omega) (by omega))) <|
        .cons (d := some 37) (by kernel_rfl) (does_fieldAddr (s := 24) (x := .tmp 2) (f := 0) (k := 1) (off := 0) (d := 0) (by kernel_rfl) (by kernel_rfl) (by kernel_rfl)) <|
        .cons (d := some 38) (by kernel_rfl) (does_load (t := 3) (x := .tmp 37) (k := 1) (off := 0) (b := ⟨[.int .i64 (Sp.lim 2097152 dx), .int .i64 (Sp.lim 2097152 dy)], 24, true, 2⟩) (v := .int .i64 (Sp.lim 2097152 dx)) (by kernel_rfl) (by kernel_rfl) (by kernel_rfl) (by kernel_rfl)) <|
        .cons (d := some 39) (by kernel_rfl) (does_fieldAddr (s := 24) (x := .tmp 3) (f := 1) (k := 2) (off := 0) (d := 1) (by kernel_rfl) (by kernel_rfl) (by kernel_rfl)) <|
        .cons (d := some 40) (by kernel_rfl) (does_load (t := 3) (x := .tmp 39) (k := 2) (off := 1) (b := ⟨[.int .i64 (Sp.lim 2097152 e_x), .int .i64 (Sp.lim 2097152 e_y)], 24, true, 2⟩) (v := .int .i64 (Sp.lim 2097152 e_y)) (by kernel_rfl) (by kernel_rfl) (by kernel_rfl) (by kernel_rfl)) <|
        .cons (d := some 41) (by kernel_rfl) (does_int (n' := (Sp.lim 2097152 dx) * (Sp.lim 2097152 e_y)) (does_pure (v := .int .i64 (IntKind.wrap .i64 ((Sp.lim 2097152 dx) * (Sp.lim 2097152 e_y)))) (by kernel_rfl) (fun w => by kernel_rfl) (by kernel_rfl)) (wrap_i64 (by omega) (by omega))) <|
        .cons (d := some 42) (by kernel_rfl) (does_int (n' := ((Sp.lim 2097152 dy) * (Sp.lim 2097152 e_x)) - ((Sp.lim 2097152 dx) * (Sp.lim 2097152 e_y))) (does_pure (v := .int .i64 (IntKind.wrap .i64 (((Sp.lim 2097152 dy) * (Sp.lim 2097152 e_x)) - ((Sp.lim 2097152 dx) * (Sp.lim 2097152 e_y))))) (by kernel_rfl) (fun w => by kernel_rfl) (by kernel_rfl)) (wrap_i64 (by omega) (by omega))) <|
        .cons (d := some 43) (by kernel_rfl) (does_call0 (x := .func 93) (ars := #[.tmp 42]) (ats := #[3]) (g := 93) (vs := [.int .i64 (((Sp.lim 2097152 dy) * (Sp.lim 2097152 e_x)) - ((Sp.lim 2097152 dx) * (Sp.lim 2097152 e_y)))]) (v := .int .i64 (Sp.sgn (((Sp.lim 2097152 dy) * (Sp.lim 2097152 e_x)) - ((Sp.lim 2097152 dx) * (Sp.lim 2097152 e_y))))) (by kernel_rfl) (by kernel_rfl) (by kernel_rfl) (by kernel_rfl) (rsign_ok (((Sp.lim 2097152 dy) * (Sp.lim 2097152 e_x)) - ((Sp.lim 2097152 dx) * (Sp.lim 2097152 e_y)))) (by kernel_rfl) (by kernel_rfl)) <|
        .cons (d := some 4) (by kernel_rfl) (does_assign (x := .tmp 43) (v := .int .i64 (Sp.sgn (((Sp.lim 2097152 dy) * (Sp.lim 2097152 e_x)) - ((Sp.lim 2097152 dx) * (Sp.lim 2097152 e_y))))) (by kernel_rfl) (by kernel_rfl)) <|
        .nil _ _) ?_
    refine aw_weak (weak_b (T := [(2, .pointer (some ⟨1, 0, none⟩)), (3, .pointer (some ⟨2, 0, none⟩)), (4, .int .i64 (Sp.sgn (((Sp.lim 2097152 dy) * (Sp.lim 2097152 e_x)) - ((Sp.lim 2097152 dx) * (Sp.lim 2097152 e_y))))), (6, .int .i64 ((Sp.quarter (Sp.lim 2097152 dx) (Sp.lim 2097152 dy)) - (Sp.quarter (Sp.lim 2097152 e_x) (Sp.lim 2097152 e_y)))), (29, .bool (((Sp.quarter (Sp.lim 2097152 dx) (Sp.lim 2097152 dy)) - (Sp.quarter (Sp.lim 2097152 e_x) (Sp.lim 2097152 e_y))) != 0))]) (L := [(1, ⟨[.int .i64 (Sp.lim 2097152 dx), .int .i64 (Sp.lim 2097152 dy)], 24, true, 2⟩), (2, ⟨[.int .i64 (Sp.lim 2097152 e_x), .int .i64 (Sp.lim 2097152 e_y)], 24, true, 2⟩)]) (by kernel_rfl) (by kernel_rfl) (by kernel_rfl)) ?_
    refine aw_ret (by kernel_rfl) ?_
    exact end_ret (vs := [.int .i64 (Sp.sgn (((Sp.lim 2097152 dy) * (Sp.lim 2097152 e_x)) - ((Sp.lim 2097152 dx) * (Sp.lim 2097152 e_y))))]) (by kernel_rfl) (show (.int .i64 (Sp.sgn (((Sp.lim 2097152 dy) * (Sp.lim 2097152 e_x)) - ((Sp.lim 2097152 dx) * (Sp.lim 2097152 e_y)))) : Value) = (.int .i64 (Sp.angle (Sp.lim 2097152 dx) (Sp.lim 2097152 dy) (Sp.lim 2097152 e_x) (Sp.lim 2097152 e_y))) from (congrArg (Value.int .i64) (show (Sp.sgn (((Sp.lim 2097152 dy) * (Sp.lim 2097152 e_x)) - ((Sp.lim 2097152 dx) * (Sp.lim 2097152 e_y)))) = (Sp.angle (Sp.lim 2097152 dx) (Sp.lim 2097152 dy) (Sp.lim 2097152 e_x) (Sp.lim 2097152 e_y)) from by (first | exact (Sp.angle_ne (by omega)).symm | exact (Sp.angle_eq (by omega)).symm)))) trivial


end Go.Proofs.Ytpfdihhlpegllaa.Am
