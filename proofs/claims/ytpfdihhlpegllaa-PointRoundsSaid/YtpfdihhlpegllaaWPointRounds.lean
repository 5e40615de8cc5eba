/-
  The walk of the law PointRounds over points that are told by variables.
-/
import Derived.Test.YtpfdihhlpegllaaProg
import Derived.Test.YtpfdihhlpegllaaPt1
import Derived.Test.YtpfdihhlpegllaaSp2
namespace Go.Proofs.Ytpfdihhlpegllaa.Am
open Go Go.Proofs
set_option maxRecDepth 100000
set_option maxHeartbeats 4000000
set_option linter.unusedVariables false
set_option linter.unusedSimpArgs false

theorem pointRounds_walk (x y z dx dy e_x e_y fx fy : Int) (hx : AC Try.prog 46 0 [.int .i64 x] [] (.agg #[.int .i64 dx, .int .i64 dy]) []) (hy : AC Try.prog 46 0 [.int .i64 y] [] (.agg #[.int .i64 e_x, .int .i64 e_y]) []) (hz : AC Try.prog 46 0 [.int .i64 z] [] (.agg #[.int .i64 fx, .int .i64 fy]) []) (bdx : -40 ≤ dx) (cdx : dx ≤ 40) (bdy : -40 ≤ dy) (cdy : dy ≤ 40) (be_x : -40 ≤ e_x) (ce_x : e_x ≤ 40) (be_y : -40 ≤ e_y) (ce_y : e_y ≤ 40) (bfx : -40 ≤ fx) (cfx : fx ≤ 40) (bfy : -40 ≤ fy) (cfy : fy ≤ 40) :
    AC Try.prog 9 0 ([.int .i64 x, .int .i64 y, .int .i64 z]) [] (.bool true) [] := by
  have A1 := Sp.angle_anti dx dy e_x e_y; have A2 := Sp.angle_zero dx dy e_x e_y; have A3 := Sp.angle_trans dx dy e_x e_y fx fy; have A4 := Sp.angle_quarter dx dy e_x e_y; have A5 := Sp.angle_bd dx dy e_x e_y; have A6 := Sp.angle_bd e_x e_y dx dy
  refine ac_intro (fn := Try.f9) (c := bodyOf Try.f9) Try.func9 (by kernel_rfl) (by kernel_rfl) (by kernel_rfl) ?_
  intro w0 W pin
  refine aw_sub ?_
  refine aw_plain_seq (r := sub (bodyOf Try.f9) [false]) (y := sub (bodyOf Try.f9) [true]) (id := 0) (ops := regOps (sub (bodyOf Try.f9) [false])) (by kernel_rfl) (by kernel_rfl) (by kernel_rfl) (by kernel_rfl) (
      .cons (d := some 6) (by kernel_rfl) (does_assign (x := .const (.bool false)) (v := .bool false) (by kernel_rfl) (by kernel_rfl)) <|
      .nil _ _) ?_
  refine aw_weak (weak_b (T := [(0, .int .i64 x), (1, .int .i64 y), (2, .int .i64 z), (6, .bool false)]) (L := []) (by kernel_rfl) (by kernel_rfl) (by kernel_rfl)) ?_
  refine aw_seq (x := sub (bodyOf Try.f9) [true, false]) (y := sub (bodyOf Try.f9) [true, true]) (by kernel_rfl) ?_
  refine aw_plain_seq (r := sub (bodyOf Try.f9) [true, false, false]) (y := sub (bodyOf Try.f9) [true, false, true]) (id := 1) (ops := regOps (sub (bodyOf Try.f9) [true, false, false])) (by kernel_rfl) (by kernel_rfl) (by kernel_rfl) (by kernel_rfl) (
      .cons (d := some 11) (by kernel_rfl) (does_call0 (x := .func 45) (ars := #[]) (ats := #[]) (g := 45) (vs := []) (v := .bool true) (by kernel_rfl) (by kernel_rfl) (by kernel_rfl) (by kernel_rfl) (terrkeep1_pointBegun_ok) (by kernel_rfl) (by kernel_rfl)) <|
      .cons (d := some 12) (by kernel_rfl) (does_pure (v := .bool false) (by kernel_rfl) (fun w => by kernel_rfl) (by kernel_rfl)) <|
      .cons (d := some 13) (by kernel_rfl) (does_move (x := .tmp 12) (v := .bool false) (by kernel_rfl) (by kernel_rfl)) <|
      .cons (d := some 14) (by kernel_rfl) (does_call0 (x := .func 48) (ars := #[.const (.int .i64 1), .const (.int .i64 0)]) (ats := #[3, 3]) (g := 48) (vs := [.int .i64 1, .int .i64 0]) (v := .agg #[.int .i64 1, .int .i64 0]) (by kernel_rfl) (by kernel_rfl) (by kernel_rfl) (by kernel_rfl) (terrkeep1_at_ok 1 0) (by kernel_rfl) (by kernel_rfl)) <|
      .cons (d := some 15) (by kernel_rfl) (does_call0 (x := .func 48) (ars := #[.const (.int .i64 0), .const (.int .i64 1)]) (ats := #[3, 3]) (g := 48) (vs := [.int .i64 0, .int .i64 1]) (v := .agg #[.int .i64 0, .int .i64 1]) (by kernel_rfl) (by kernel_rfl) (by kernel_rfl) (by kernel_rfl) (terrkeep1_at_ok 0 1) (by kernel_rfl) (by kernel_rfl)) <|
      .cons (d := some 16) (by kernel_rfl) (does_call0 (x := .func 59) (ars := #[.tmp 14, .tmp 15]) (ats := #[24, 24]) (g := 59) (vs := [.agg #[.int .i64 1, .int .i64 0], .agg #[.int .i64 0, .int .i64 1]]) (v := .int .i64 (Sp.angle 1 0 0 1)) (by kernel_rfl) (by kernel_rfl) (by kernel_rfl) (by kernel_rfl) (angle_in 1 0 0 1 (by omega) (by omega) (by omega) (by omega) (by omega) (by omega) (by omega) (by omega)) (by kernel_rfl) (by kernel_rfl)) <|
      .cons (d := some 17) (by kernel_rfl) (does_bool (b' := false) (does_pure (v := .bool ((Sp.angle 1 0 0 1) != (-1))) (by kernel_rfl) (fun w => by kernel_rfl) (by kernel_rfl)) (by decide)) <|
      .cons (d := some 18) (by kernel_rfl) (does_pick (c := .tmp 13) (x := .const (.bool true)) (y := .tmp 17) (b := false) (v := .bool false) (by kernel_rfl) (by kernel_rfl) (by kernel_rfl)) <|
      .nil _ _) ?_
  refine aw_weak (weak_b (T := [(0, .int .i64 x), (1, .int .i64 y), (2, .int .i64 z), (6, .bool false), (18, .bool false)]) (L := []) (by kernel_rfl) (by kernel_rfl) (by kernel_rfl)) ?_
  refine aw_false (o := .tmp 18) (x := sub (bodyOf Try.f9) [true, false, true, false]) (y := sub (bodyOf Try.f9) [true, false, true, true]) (by kernel_rfl) (by kernel_rfl) ?_
  refine aw_skip (by kernel_rfl) ?_
  refine then_normal ?_
  refine aw_plain_seq (r := sub (bodyOf Try.f9) [true, true, false]) (y := sub (bodyOf Try.f9) [true, true, true]) (id := 3) (ops := regOps (sub (bodyOf Try.f9) [true, true, false])) (by kernel_rfl) (by kernel_rfl) (by kernel_rfl) (by kernel_rfl) (
      .cons (d := some 19) (by kernel_rfl) (does_move (x := .tmp 0) (v := .int .i64 x) (by kernel_rfl) (by kernel_rfl)) <|
      .cons (d := some 20) (by kernel_rfl) (does_call0 (x := .func 46) (ars := #[.tmp 19]) (ats := #[3]) (g := 46) (vs := [.int .i64 x]) (v := .agg #[.int .i64 dx, .int .i64 dy]) (by kernel_rfl) (by kernel_rfl) (by kernel_rfl) (by kernel_rfl) (hx) (by kernel_rfl) (by kernel_rfl)) <|
      .cons (d := some 21) (by kernel_rfl) (does_move (x := .tmp 1) (v := .int .i64 y) (by kernel_rfl) (by kernel_rfl)) <|
      .cons (d := some 22) (by kernel_rfl) (does_call0 (x := .func 46) (ars := #[.tmp 21]) (ats := #[3]) (g := 46) (vs := [.int .i64 y]) (v := .agg #[.int .i64 e_x, .int .i64 e_y]) (by kernel_rfl) (by kernel_rfl) (by kernel_rfl) (by kernel_rfl) (hy) (by kernel_rfl) (by kernel_rfl)) <|
      .cons (d := some 23) (by kernel_rfl) (does_move (x := .tmp 2) (v := .int .i64 z) (by kernel_rfl) (by kernel_rfl)) <|
      .cons (d := some 24) (by kernel_rfl) (does_call0 (x := .func 46) (ars := #[.tmp 23]) (ats := #[3]) (g := 46) (vs := [.int .i64 z]) (v := .agg #[.int .i64 fx, .int .i64 fy]) (by kernel_rfl) (by kernel_rfl) (by kernel_rfl) (by kernel_rfl) (hz) (by kernel_rfl) (by kernel_rfl)) <|
      .cons (d := some 7) (by kernel_rfl) (does_alloc (t := 24) (k := 1) (v := .agg #[.int .i64 0, .int .i64 0]) (cells := [.int .i64 0, .int .i64 0]) (by kernel_rfl) (by kernel_rfl) (by kernel_rfl) (by kernel_rfl) (by kernel_rfl)) <|
      .cons (d := some 8) (by kernel_rfl) (does_alloc (t := 24) (k := 2) (v := .agg #[.int .i64 0, .int .i64 0]) (cells := [.int .i64 0, .int .i64 0]) (by kernel_rfl) (by kernel_rfl) (by kernel_rfl) (by kernel_rfl) (by kernel_rfl)) <|
      .cons (d := some 9) (by kernel_rfl) (does_alloc (t := 24) (k := 3) (v := .agg #[.int .i64 0, .int .i64 0]) (cells := [.int .i64 0, .int .i64 0]) (by kernel_rfl) (by kernel_rfl) (by kernel_rfl) (by kernel_rfl) (by kernel_rfl)) <|
      .cons (d := none) (by kernel_rfl) (does_store (t := 24) (x := .tmp 7) (y := .tmp 20) (k := 1) (off := 0) (b := ⟨[.int .i64 0, .int .i64 0], 24, true, 2⟩) (v := .agg #[.int .i64 dx, .int .i64 dy]) (cells := [.int .i64 dx, .int .i64 dy]) (by kernel_rfl) (by kernel_rfl) (by kernel_rfl) (by kernel_rfl) rfl (by kernel_rfl) (by kernel_rfl) (by kernel_rfl) (by kernel_rfl)) <|
      .cons (d := none) (by kernel_rfl) (does_store (t := 24) (x := .tmp 8) (y := .tmp 22) (k := 2) (off := 0) (b := ⟨[.int .i64 0, .int .i64 0], 24, true, 2⟩) (v := .agg #[.int .i64 e_x, .int .i64 e_y]) (cells := [.int .i64 e_x, .int .i64 e_y]) (by kernel_rfl) (by kernel_rfl) (by kernel_rfl) (by kernel_rfl) rfl (by kernel_rfl) (by kernel_rfl) (by kernel_rfl) (by kernel_rfl)) <|
      .cons (d := none) (by kernel_rfl) (does_store (t := 24) (x := .tmp 9) (y := .tmp 24) (k := 3) (off := 0) (b := ⟨[.int .i64 0, .int .i64 0], 24, true, 2⟩) (v := .agg #[.int .i64 fx, .int .i64 fy]) (cells := [.int .i64 fx, .int .i64 fy]) (by kernel_rfl) (by kernel_rfl) (by kernel_rfl) (by kernel_rfl) rfl (by kernel_rfl) (by kernel_rfl) (by kernel_rfl) (by kernel_rfl)) <|
      .nil _ _) ?_
  refine aw_weak (weak_b (T := [(6, .bool false), (7, .pointer (some ⟨1, 0, none⟩)), (8, .pointer (some ⟨2, 0, none⟩)), (9, .pointer (some ⟨3, 0, none⟩)), (18, .bool false)]) (L := [(1, ⟨[.int .i64 dx, .int .i64 dy], 24, true, 2⟩), (2, ⟨[.int .i64 e_x, .int .i64 e_y], 24, true, 2⟩), (3, ⟨[.int .i64 fx, .int .i64 fy], 24, true, 2⟩)]) (by kernel_rfl) (by kernel_rfl) (by kernel_rfl)) ?_
  refine aw_plain_seq (r := sub (bodyOf Try.f9) [true, true, true, false]) (y := sub (bodyOf Try.f9) [true, true, true, true]) (id := 4) (ops := regOps (sub (bodyOf Try.f9) [true, true, true, false])) (by kernel_rfl) (by kernel_rfl) (by kernel_rfl) (by kernel_rfl) (
      .cons (d := some 25) (by kernel_rfl) (does_load (t := 24) (x := .tmp 7) (k := 1) (off := 0) (b := ⟨[.int .i64 dx, .int .i64 dy], 24, true, 2⟩) (v := .agg #[.int .i64 dx, .int .i64 dy]) (by kernel_rfl) (by kernel_rfl) (by kernel_rfl) (by kernel_rfl)) <|
      .cons (d := some 26) (by kernel_rfl) (does_load (t := 24) (x := .tmp 8) (k := 2) (off := 0) (b := ⟨[.int .i64 e_x, .int .i64 e_y], 24, true, 2⟩) (v := .agg #[.int .i64 e_x, .int .i64 e_y]) (by kernel_rfl) (by kernel_rfl) (by kernel_rfl) (by kernel_rfl)) <|
      .cons (d := some 27) (by kernel_rfl) (does_call0 (x := .func 59) (ars := #[.tmp 25, .tmp 26]) (ats := #[24, 24]) (g := 59) (vs := [.agg #[.int .i64 dx, .int .i64 dy], .agg #[.int .i64 e_x, .int .i64 e_y]]) (v := .int .i64 (Sp.angle dx dy e_x e_y)) (by kernel_rfl) (by kernel_rfl) (by kernel_rfl) (by kernel_rfl) (angle_in dx dy e_x e_y (by omega) (by omega) (by omega) (by omega) (by omega) (by omega) (by omega) (by omega)) (by kernel_rfl) (by kernel_rfl)) <|
      .cons (d := some 10) (by kernel_rfl) (does_assign (x := .tmp 27) (v := .int .i64 (Sp.angle dx dy e_x e_y)) (by kernel_rfl) (by kernel_rfl)) <|
      .nil _ _) ?_
  refine aw_weak (weak_b (T := [(6, .bool false), (7, .pointer (some ⟨1, 0, none⟩)), (8, .pointer (some ⟨2, 0, none⟩)), (9, .pointer (some ⟨3, 0, none⟩)), (10, .int .i64 (Sp.angle dx dy e_x e_y)), (18, .bool false)]) (L := [(1, ⟨[.int .i64 dx, .int .i64 dy], 24, true, 2⟩), (2, ⟨[.int .i64 e_x, .int .i64 e_y], 24, true, 2⟩), (3, ⟨[.int .i64 fx, .int .i64 fy], 24, true, 2⟩)]) (by kernel_rfl) (by kernel_rfl) (by kernel_rfl)) ?_
  refine aw_seq (x := sub (bodyOf Try.f9) [true, true, true, true, false]) (y := sub (bodyOf Try.f9) [true, true, true, true, true]) (by kernel_rfl) ?_
  refine aw_joinT (y := sub (bodyOf Try.f9) [true, true, true, true, true]) (S1 := mkSt 0 [(6, .bool false), (7, .pointer (some ⟨1, 0, none⟩)), (8, .pointer (some ⟨2, 0, none⟩)), (9, .pointer (some ⟨3, 0, none⟩)), (10, .int .i64 (Sp.angle dx dy e_x e_y)), (18, .bool false)] [(1, ⟨[.int .i64 dx, .int .i64 dy], 24, true, 2⟩), (2, ⟨[.int .i64 e_x, .int .i64 e_y], 24, true, 2⟩), (3, ⟨[.int .i64 fx, .int .i64 fy], 24, true, 2⟩)]) ?_ (fun K1 => ?_)
  · refine aw_seq (x := sub (bodyOf Try.f9) [true, true, true, true, true, false]) (y := sub (bodyOf Try.f9) [true, true, true, true, true, true]) (by kernel_rfl) ?_
    refine aw_joinT (y := sub (bodyOf Try.f9) [true, true, true, true, true, true]) (S1 := mkSt 0 [(6, .bool false), (7, .pointer (some ⟨1, 0, none⟩)), (8, .pointer (some ⟨2, 0, none⟩)), (9, .pointer (some ⟨3, 0, none⟩)), (10, .int .i64 (Sp.angle dx dy e_x e_y)), (18, .bool false)] [(1, ⟨[.int .i64 dx, .int .i64 dy], 24, true, 2⟩), (2, ⟨[.int .i64 e_x, .int .i64 e_y], 24, true, 2⟩), (3, ⟨[.int .i64 fx, .int .i64 fy], 24, true, 2⟩)]) ?_ (fun K2 => ?_)
    · refine aw_seq (x := sub (bodyOf Try.f9) [true, true, true, true, true, true, false]) (y := sub (bodyOf Try.f9) [true, true, true, true, true, true, true]) (by kernel_rfl) ?_
      refine aw_joinTF (¬ (dy < 0 ∨ e_y < 0 ∨ (dx < 0 ∧ dy = 0) ∨ (e_x < 0 ∧ e_y = 0))) (y := sub (bodyOf Try.f9) [true, true, true, true, true, true, true]) (S1 := mkSt 0 [(6, .bool false), (7, .pointer (some ⟨1, 0, none⟩)), (8, .pointer (some ⟨2, 0, none⟩)), (9, .pointer (some ⟨3, 0, none⟩)), (10, .int .i64 (Sp.angle dx dy e_x e_y)), (18, .bool false)] [(1, ⟨[.int .i64 dx, .int .i64 dy], 24, true, 2⟩), (2, ⟨[.int .i64 e_x, .int .i64 e_y], 24, true, 2⟩), (3, ⟨[.int .i64 fx, .int .i64 fy], 24, true, 2⟩)]) (fun hF3 => ?_) (fun K3 => ?_)
      · refine aw_draws_seq (r := sub (bodyOf Try.f9) [true, true, true, true, true, true, true, false]) (y := sub (bodyOf Try.f9) [true, true, true, true, true, true, true, true]) (id := 11) (ops := regOps (sub (bodyOf Try.f9) [true, true, true, true, true, true, true, false])) [[], [0], [0, 1], [], [3], [0, 1, 2, 3, 4], [], [6], [6, 7], [], [9], [0, 1, 2, 3, 4, 5, 6, 7, 8, 9, 10], [0, 1, 2, 3, 4, 5, 6, 7, 8, 9, 10, 11], [], [0, 1, 2, 3, 4, 5, 6, 7, 8, 9, 10, 11, 12, 13], [0, 1, 2, 3, 4, 5, 6, 7, 8, 9, 10, 11, 12, 13, 14]] (by kernel_rfl) (by kernel_rfl) (by kernel_rfl) (by kernel_rfl) (by kernel_rfl) (by kernel_rfl) (
            .cons (d := some 113) (by kernel_rfl) (does_fieldAddr (s := 24) (x := .tmp 7) (f := 1) (k := 1) (off := 0) (d := 1) (by kernel_rfl) (by kernel_rfl) (by kernel_rfl)) <|
            .cons (d := some 114) (by kernel_rfl) (does_load (t := 3) (x := .tmp 113) (k := 1) (off := 1) (b := ⟨[.int .i64 dx, .int .i64 dy], 24, true, 2⟩) (v := .int .i64 dy) (by kernel_rfl) (by kernel_rfl) (by kernel_rfl) (by kernel_rfl)) <|
            .cons (d := some 115) (by kernel_rfl) (does_int (n' := 0 - dy) (does_pure (v := .int .i64 (IntKind.wrap .i64 (0 - dy))) (by kernel_rfl) (fun w => by kernel_rfl) (by kernel_rfl)) (wrap_i64 (by omega) (by omega))) <|
            .cons (d := some 116) (by kernel_rfl) (does_fieldAddr (s := 24) (x := .tmp 7) (f := 0) (k := 1) (off := 0) (d := 0) (by kernel_rfl) (by kernel_rfl) (by kernel_rfl)) <|
            .cons (d := some 117) (by kernel_rfl) (does_load (t := 3) (x := .tmp 116) (k := 1) (off := 0) (b := ⟨[.int .i64 dx, .int .i64 dy], 24, true, 2⟩) (v := .int .i64 dx) (by kernel_rfl) (by kernel_rfl) (by kernel_rfl) (by kernel_rfl)) <|
            .cons (d := some 118) (by kernel_rfl) (does_call0 (x := .func 48) (ars := #[.tmp 115, .tmp 117]) (ats := #[3, 3]) (g := 48) (vs := [.int .i64 (0 - dy), .int .i64 dx]) (v := .agg #[.int .i64 (0 - dy), .int .i64 dx]) (by kernel_rfl) (by kernel_rfl) (by kernel_rfl) (by kernel_rfl) (terrkeep1_at_ok (0 - dy) dx) (by kernel_rfl) (by kernel_rfl)) <|
            .cons (d := some 119) (by kernel_rfl) (does_fieldAddr (s := 24) (x := .tmp 8) (f := 1) (k := 2) (off := 0) (d := 1) (by kernel_rfl) (by kernel_rfl) (by kernel_rfl)) <|
            .cons (d := some 120) (by kernel_rfl) (does_load (t := 3) (x := .tmp 119) (k := 2) (off := 1) (b := ⟨[.int .i64 e_x, .int .i64 e_y], 24, true, 2⟩) (v := .int .i64 e_y) (by kernel_rfl) (by kernel_rfl) (by kernel_rfl) (by kernel_rfl)) <|
            .cons (d := some 121) (by kernel_rfl) (does_int (n' := 0 - e_y) (does_pure (v := .int .i64 (IntKind.wrap .i64 (0 - e_y))) (by kernel_rfl) (fun w => by kernel_rfl) (by kernel_rfl)) (wrap_i64 (by omega) (by omega))) <|
            .cons (d := some 122) (by kernel_rfl) (does_fieldAddr (s := 24) (x := .tmp 8) (f := 0) (k := 2) (off := 0) (d := 0) (by kernel_rfl) (by kernel_rfl) (by kernel_rfl)) <|
            .cons (d := some 123) (by kernel_rfl) (does_load (t := 3) (x := .tmp 122) (k := 2) (off := 0) (b := ⟨[.int .i64 e_x, .int .i64 e_y], 24, true, 2⟩) (v := .int .i64 e_x) (by kernel_rfl) (by kernel_rfl) (by kernel_rfl) (by kernel_rfl)) <|
            .cons (d := some 124) (by kernel_rfl) (does_call0 (x := .func 48) (ars := #[.tmp 121, .tmp 123]) (ats := #[3, 3]) (g := 48) (vs := [.int .i64 (0 - e_y), .int .i64 e_x]) (v := .agg #[.int .i64 (0 - e_y), .int .i64 e_x]) (by kernel_rfl) (by kernel_rfl) (by kernel_rfl) (by kernel_rfl) (terrkeep1_at_ok (0 - e_y) e_x) (by kernel_rfl) (by kernel_rfl)) <|
            .cons (d := some 125) (by kernel_rfl) (does_call0 (x := .func 59) (ars := #[.tmp 118, .tmp 124]) (ats := #[24, 24]) (g := 59) (vs := [.agg #[.int .i64 (0 - dy), .int .i64 dx], .agg #[.int .i64 (0 - e_y), .int .i64 e_x]]) (v := .int .i64 (Sp.angle (0 - dy) dx (0 - e_y) e_x)) (by kernel_rfl) (by kernel_rfl) (by kernel_rfl) (by kernel_rfl) (angle_in (0 - dy) dx (0 - e_y) e_x (by omega) (by omega) (by omega) (by omega) (by omega) (by omega) (by omega) (by omega)) (by kernel_rfl) (by kernel_rfl)) <|
            .cons (d := some 126) (by kernel_rfl) (does_move (x := .tmp 10) (v := .int .i64 (Sp.angle dx dy e_x e_y)) (by kernel_rfl) (by kernel_rfl)) <|
            .cons (d := some 127) (by kernel_rfl) (does_pure (v := .bool ((Sp.angle (0 - dy) dx (0 - e_y) e_x) == (Sp.angle dx dy e_x e_y))) (by kernel_rfl) (fun w => by kernel_rfl) (by kernel_rfl)) <|
            .cons (d := some 6) (by kernel_rfl) (does_assign (x := .tmp 127) (v := .bool ((Sp.angle (0 - dy) dx (0 - e_y) e_x) == (Sp.angle dx dy e_x e_y))) (by kernel_rfl) (by kernel_rfl)) <|
            .nil _ _) ?_
        refine aw_weak (weak_b (T := [(6, .bool ((Sp.angle (0 - dy) dx (0 - e_y) e_x) == (Sp.angle dx dy e_x e_y))), (7, .pointer (some ⟨1, 0, none⟩)), (8, .pointer (some ⟨2, 0, none⟩)), (9, .pointer (some ⟨3, 0, none⟩)), (10, .int .i64 (Sp.angle dx dy e_x e_y)), (18, .bool false)]) (L := [(1, ⟨[.int .i64 dx, .int .i64 dy], 24, true, 2⟩), (2, ⟨[.int .i64 e_x, .int .i64 e_y], 24, true, 2⟩), (3, ⟨[.int .i64 fx, .int .i64 fy], 24, true, 2⟩)]) (by kernel_rfl) (by kernel_rfl) (by kernel_rfl)) ?_
        refine aw_ret (by kernel_rfl) ?_
        exact end_ret (vs := [.bool ((Sp.angle (0 - dy) dx (0 - e_y) e_x) == (Sp.angle dx dy e_x e_y))]) (by kernel_rfl) (show (.bool ((Sp.angle (0 - dy) dx (0 - e_y) e_x) == (Sp.angle dx dy e_x e_y)) : Value) = (.bool true) from (congrArg Value.bool (show ((Sp.angle (0 - dy) dx (0 - e_y) e_x) == (Sp.angle dx dy e_x e_y)) = true from by (first | (exfalso; omega) | (exfalso; omega) | (rw [beq_iff_eq, Int.zero_sub, Int.zero_sub]; exact A4 (by omega)))))) trivial
      rcases Bool.eq_false_or_eq_true (decide (dy < 0)) with h8 | h8
      · have h8p : ((dy < 0)) := by first | (simpa using h8) | (have h8q := h8; simp at h8q; omega) | (have h8q := bx1 h8; simp at h8q; omega)
        refine aw_plain_seq (r := sub (bodyOf Try.f9) [true, true, true, true, true, true, false, false]) (y := sub (bodyOf Try.f9) [true, true, true, true, true, true, false, true]) (id := 9) (ops := regOps (sub (bodyOf Try.f9) [true, true, true, true, true, true, false, false])) (by kernel_rfl) (by kernel_rfl) (by kernel_rfl) (by kernel_rfl) (
            .cons (d := some 85) (by kernel_rfl) (does_fieldAddr (s := 24) (x := .tmp 7) (f := 1) (k := 1) (off := 0) (d := 1) (by kernel_rfl) (by kernel_rfl) (by kernel_rfl)) <|
            .cons (d := some 86) (by kernel_rfl) (does_load (t := 3) (x := .tmp 85) (k := 1) (off := 1) (b := ⟨[.int .i64 dx, .int .i64 dy], 24, true, 2⟩) (v := .int .i64 dy) (by kernel_rfl) (by kernel_rfl) (by kernel_rfl) (by kernel_rfl)) <|
            .cons (d := some 87) (by kernel_rfl) (does_bool (b' := true) (does_pure (v := .bool (decide (dy < 0))) (by kernel_rfl) (fun w => by kernel_rfl) (by kernel_rfl)) (h8)) <|
            .cons (d := some 88) (by kernel_rfl) (does_move (x := .tmp 87) (v := .bool true) (by kernel_rfl) (by kernel_rfl)) <|
            .cons (d := some 89) (by kernel_rfl) (does_skipB (by kernel_rfl)) <|
            .cons (d := some 90) (by kernel_rfl) (does_skipB (by kernel_rfl)) <|
            .cons (d := some 91) (by kernel_rfl) (does_skipB (by kernel_rfl)) <|
            .cons (d := some 92) (by kernel_rfl) (does_pick (c := .tmp 88) (x := .const (.bool true)) (y := .tmp 91) (b := true) (v := .bool true) (by kernel_rfl) (by kernel_rfl) (by kernel_rfl)) <|
            .cons (d := some 93) (by kernel_rfl) (does_move (x := .tmp 92) (v := .bool true) (by kernel_rfl) (by kernel_rfl)) <|
            .cons (d := some 94) (by kernel_rfl) (does_skipB (by kernel_rfl)) <|
            .cons (d := some 95) (by kernel_rfl) (does_skipB (by kernel_rfl)) <|
            .cons (d := some 96) (by kernel_rfl) (does_skipB (by kernel_rfl)) <|
            .cons (d := some 97) (by kernel_rfl) (does_skipB (by kernel_rfl)) <|
            .cons (d := some 98) (by kernel_rfl) (does_skipB (by kernel_rfl)) <|
            .cons (d := some 99) (by kernel_rfl) (does_skipB (by kernel_rfl)) <|
            .cons (d := some 100) (by kernel_rfl) (does_skipB (by kernel_rfl)) <|
            .cons (d := some 101) (by kernel_rfl) (does_skipB (by kernel_rfl)) <|
            .cons (d := some 102) (by kernel_rfl) (does_pick (c := .tmp 93) (x := .const (.bool true)) (y := .tmp 101) (b := true) (v := .bool true) (by kernel_rfl) (by kernel_rfl) (by kernel_rfl)) <|
            .cons (d := some 103) (by kernel_rfl) (does_move (x := .tmp 102) (v := .bool true) (by kernel_rfl) (by kernel_rfl)) <|
            .cons (d := some 104) (by kernel_rfl) (does_skipB (by kernel_rfl)) <|
            .cons (d := some 105) (by kernel_rfl) (does_skipB (by kernel_rfl)) <|
            .cons (d := some 106) (by kernel_rfl) (does_skipB (by kernel_rfl)) <|
            .cons (d := some 107) (by kernel_rfl) (does_skipB (by kernel_rfl)) <|
            .cons (d := some 108) (by kernel_rfl) (does_skipB (by kernel_rfl)) <|
            .cons (d := some 109) (by kernel_rfl) (does_skipB (by kernel_rfl)) <|
            .cons (d := some 110) (by kernel_rfl) (does_skipB (by kernel_rfl)) <|
            .cons (d := some 111) (by kernel_rfl) (does_skipB (by kernel_rfl)) <|
            .cons (d := some 112) (by kernel_rfl) (does_pick (c := .tmp 103) (x := .const (.bool true)) (y := .tmp 111) (b := true) (v := .bool true) (by kernel_rfl) (by kernel_rfl) (by kernel_rfl)) <|
            .nil _ _) ?_
        refine aw_weak (weak_b (T := [(6, .bool false), (7, .pointer (some ⟨1, 0, none⟩)), (8, .pointer (some ⟨2, 0, none⟩)), (9, .pointer (some ⟨3, 0, none⟩)), (10, .int .i64 (Sp.angle dx dy e_x e_y)), (18, .bool false), (112, .bool true)]) (L := [(1, ⟨[.int .i64 dx, .int .i64 dy], 24, true, 2⟩), (2, ⟨[.int .i64 e_x, .int .i64 e_y], 24, true, 2⟩), (3, ⟨[.int .i64 fx, .int .i64 fy], 24, true, 2⟩)]) (by kernel_rfl) (by kernel_rfl) (by kernel_rfl)) ?_
        refine aw_true (o := .tmp 112) (x := sub (bodyOf Try.f9) [true, true, true, true, true, true, false, true, false]) (y := sub (bodyOf Try.f9) [true, true, true, true, true, true, false, true, true]) (by kernel_rfl) (by kernel_rfl) ?_
        refine aw_plain_seq (r := sub (bodyOf Try.f9) [true, true, true, true, true, true, false, true, false, false]) (y := sub (bodyOf Try.f9) [true, true, true, true, true, true, false, true, false, true]) (id := 10) (ops := regOps (sub (bodyOf Try.f9) [true, true, true, true, true, true, false, true, false, false])) (by kernel_rfl) (by kernel_rfl) (by kernel_rfl) (by kernel_rfl) (
            .cons (d := some 6) (by kernel_rfl) (does_assign (x := .const (.bool true)) (v := .bool true) (by kernel_rfl) (by kernel_rfl)) <|
            .nil _ _) ?_
        refine aw_weak (weak_b (T := [(6, .bool true), (7, .pointer (some ⟨1, 0, none⟩)), (8, .pointer (some ⟨2, 0, none⟩)), (9, .pointer (some ⟨3, 0, none⟩)), (10, .int .i64 (Sp.angle dx dy e_x e_y)), (18, .bool false), (112, .bool true)]) (L := [(1, ⟨[.int .i64 dx, .int .i64 dy], 24, true, 2⟩), (2, ⟨[.int .i64 e_x, .int .i64 e_y], 24, true, 2⟩), (3, ⟨[.int .i64 fx, .int .i64 fy], 24, true, 2⟩)]) (by kernel_rfl) (by kernel_rfl) (by kernel_rfl)) ?_
        refine aw_ret (by kernel_rfl) ?_
        refine then_ret ?_
        exact end_ret (vs := [.bool true]) (by kernel_rfl) (by kernel_rfl) trivial
      · have h8p : ¬ ((dy < 0)) := by first | (simpa using h8) | (have h8q := h8; simp at h8q; omega) | (have h8q := bx2 h8; simp at h8q; omega)
        rcases Bool.eq_false_or_eq_true (decide (e_y < 0)) with h9 | h9
        · have h9p : ((e_y < 0)) := by first | (simpa using h9) | (have h9q := h9; simp at h9q; omega) | (have h9q := bx1 h9; simp at h9q; omega)
          refine aw_plain_seq (r := sub (bodyOf Try.f9) [true, true, true, true, true, true, false, false]) (y := sub (bodyOf Try.f9) [true, true, true, true, true, true, false, true]) (id := 9) (ops := regOps (sub (bodyOf Try.f9) [true, true, true, true, true, true, false, false])) (by kernel_rfl) (by kernel_rfl) (by kernel_rfl) (by kernel_rfl) (
              .cons (d := some 85) (by kernel_rfl) (does_fieldAddr (s := 24) (x := .tmp 7) (f := 1) (k := 1) (off := 0) (d := 1) (by kernel_rfl) (by kernel_rfl) (by kernel_rfl)) <|
              .cons (d := some 86) (by kernel_rfl) (does_load (t := 3) (x := .tmp 85) (k := 1) (off := 1) (b := ⟨[.int .i64 dx, .int .i64 dy], 24, true, 2⟩) (v := .int .i64 dy) (by kernel_rfl) (by kernel_rfl) (by kernel_rfl) (by kernel_rfl)) <|
              .cons (d := some 87) (by kernel_rfl) (does_bool (b' := false) (does_pure (v := .bool (decide (dy < 0))) (by kernel_rfl) (fun w => by kernel_rfl) (by kernel_rfl)) (h8)) <|
              .cons (d := some 88) (by kernel_rfl) (does_move (x := .tmp 87) (v := .bool false) (by kernel_rfl) (by kernel_rfl)) <|
              .cons (d := some 89) (by kernel_rfl) (does_fieldAddr (s := 24) (x := .tmp 8) (f := 1) (k := 2) (off := 0) (d := 1) (by kernel_rfl) (by kernel_rfl) (by kernel_rfl)) <|
              .cons (d := some 90) (by kernel_rfl) (does_load (t := 3) (x := .tmp 89) (k := 2) (off := 1) (b := ⟨[.int .i64 e_x, .int .i64 e_y], 24, true, 2⟩) (v := .int .i64 e_y) (by kernel_rfl) (by kernel_rfl) (by kernel_rfl) (by kernel_rfl)) <|
              .cons (d := some 91) (by kernel_rfl) (does_bool (b' := true) (does_pure (v := .bool (decide (e_y < 0))) (by kernel_rfl) (fun w => by kernel_rfl) (by kernel_rfl)) (h9)) <|
              .cons (d := some 92) (by kernel_rfl) (does_pick (c := .tmp 88) (x := .const (.bool true)) (y := .tmp 91) (b := false) (v := .bool true) (by kernel_rfl) (by kernel_rfl) (by kernel_rfl)) <|
              .cons (d := some 93) (by kernel_rfl) (does_move (x := .tmp 92) (v := .bool true) (by kernel_rfl) (by kernel_rfl)) <|
              .cons (d := some 94) (by kernel_rfl) (does_skipB (by kernel_rfl)) <|
              .cons (d := some 95) (by kernel_rfl) (does_skipB (by kernel_rfl)) <|
              .cons (d := some 96) (by kernel_rfl) (does_skipB (by kernel_rfl)) <|
              .cons (d := some 97) (by kernel_rfl) (does_skipB (by kernel_rfl)) <|
              .cons (d := some 98) (by kernel_rfl) (does_skipB (by kernel_rfl)) <|
              .cons (d := some 99) (by kernel_rfl) (does_skipB (by kernel_rfl)) <|
              .cons (d := some 100) (by kernel_rfl) (does_skipB (by kernel_rfl)) <|
              .cons (d := some 101) (by kernel_rfl) (does_skipB (by kernel_rfl)) <|
              .cons (d := some 102) (by kernel_rfl) (does_pick (c := .tmp 93) (x := .const (.bool true)) (y := .tmp 101) (b := true) (v := .bool true) (by kernel_rfl) (by kernel_rfl) (by kernel_rfl)) <|
              .cons (d := some 103) (by kernel_rfl) (does_move (x := .tmp 102) (v := .bool true) (by kernel_rfl) (by kernel_rfl)) <|
              .cons (d := some 104) (by kernel_rfl) (does_skipB (by kernel_rfl)) <|
              .cons (d := some 105) (by kernel_rfl) (does_skipB (by kernel_rfl)) <|
              .cons (d := some 106) (by kernel_rfl) (does_skipB (by kernel_rfl)) <|
              .cons (d := some 107) (by kernel_rfl) (does_skipB (by kernel_rfl)) <|
              .cons (d := some 108) (by kernel_rfl) (does_skipB (by kernel_rfl)) <|
              .cons (d := some 109) (by kernel_rfl) (does_skipB (by kernel_rfl)) <|
              .cons (d := some 110) (by kernel_rfl) (does_skipB (by kernel_rfl)) <|
              .cons (d := some 111) (by kernel_rfl) (does_skipB (by kernel_rfl)) <|
              .cons (d := some 112) (by kernel_rfl) (does_pick (c := .tmp 103) (x := .const (.bool true)) (y := .tmp 111) (b := true) (v := .bool true) (by kernel_rfl) (by kernel_rfl) (by kernel_rfl)) <|
              .nil _ _) ?_
          refine aw_weak (weak_b (T := [(6, .bool false), (7, .pointer (some ⟨1, 0, none⟩)), (8, .pointer (some ⟨2, 0, none⟩)), (9, .pointer (some ⟨3, 0, none⟩)), (10, .int .i64 (Sp.angle dx dy e_x e_y)), (18, .bool false), (112, .bool true)]) (L := [(1, ⟨[.int .i64 dx, .int .i64 dy], 24, true, 2⟩), (2, ⟨[.int .i64 e_x, .int .i64 e_y], 24, true, 2⟩), (3, ⟨[.int .i64 fx, .int .i64 fy], 24, true, 2⟩)]) (by kernel_rfl) (by kernel_rfl) (by kernel_rfl)) ?_
          refine aw_true (o := .tmp 112) (x := sub (bodyOf Try.f9) [true, true, true, true, true, true, false, true, false]) (y := sub (bodyOf Try.f9) [true, true, true, true, true, true, false, true, true]) (by kernel_rfl) (by kernel_rfl) ?_
          refine aw_plain_seq (r := sub (bodyOf Try.f9) [true, true, true, true, true, true, false, true, false, false]) (y := sub (bodyOf Try.f9) [true, true, true, true, true, true, false, true, false, true]) (id := 10) (ops := regOps (sub (bodyOf Try.f9) [true, true, true, true, true, true, false, true, false, false])) (by kernel_rfl) (by kernel_rfl) (by kernel_rfl) (by kernel_rfl) (
              .cons (d := some 6) (by kernel_rfl) (does_assign (x := .const (.bool true)) (v := .bool true) (by kernel_rfl) (by kernel_rfl)) <|
              .nil _ _) ?_
          refine aw_weak (weak_b (T := [(6, .bool true), (7, .pointer (some ⟨1, 0, none⟩)), (8, .pointer (some ⟨2, 0, none⟩)), (9, .pointer (some ⟨3, 0, none⟩)), (10, .int .i64 (Sp.angle dx dy e_x e_y)), (18, .bool false), (112, .bool true)]) (L := [(1, ⟨[.int .i64 dx, .int .i64 dy], 24, true, 2⟩), (2, ⟨[.int .i64 e_x, .int .i64 e_y], 24, true, 2⟩), (3, ⟨[.int .i64 fx, .int .i64 fy], 24, true, 2⟩)]) (by kernel_rfl) (by kernel_rfl) (by kernel_rfl)) ?_
          refine aw_ret (by kernel_rfl) ?_
          refine then_ret ?_
          exact end_ret (vs := [.bool true]) (by kernel_rfl) (by kernel_rfl) trivial
        · have h9p : ¬ ((e_y < 0)) := by first | (simpa using h9) | (have h9q := h9; simp at h9q; omega) | (have h9q := bx2 h9; simp at h9q; omega)
          rcases Bool.eq_false_or_eq_true (decide (dx < 0)) with h10 | h10
          · have h10p : ((dx < 0)) := by first | (simpa using h10) | (have h10q := h10; simp at h10q; omega) | (have h10q := bx1 h10; simp at h10q; omega)
            rcases Bool.eq_false_or_eq_true (dy == 0) with h11 | h11
            · have h11p : ((dy = 0)) := by first | (simpa using h11) | (have h11q := h11; simp at h11q; omega) | (have h11q := bx1 h11; simp at h11q; omega)
              refine aw_plain_seq (r := sub (bodyOf Try.f9) [true, true, true, true, true, true, false, false]) (y := sub (bodyOf Try.f9) [true, true, true, true, true, true, false, true]) (id := 9) (ops := regOps (sub (bodyOf Try.f9) [true, true, true, true, true, true, false, false])) (by kernel_rfl) (by kernel_rfl) (by kernel_rfl) (by kernel_rfl) (
                  .cons (d := some 85) (by kernel_rfl) (does_fieldAddr (s := 24) (x := .tmp 7) (f := 1) (k := 1) (off := 0) (d := 1) (by kernel_rfl) (by kernel_rfl) (by kernel_rfl)) <|
                  .cons (d := some 86) (by kernel_rfl) (does_load (t := 3) (x := .tmp 85) (k := 1) (off := 1) (b := ⟨[.int .i64 dx, .int .i64 dy], 24, true, 2⟩) (v := .int .i64 dy) (by kernel_rfl) (by kernel_rfl) (by kernel_rfl) (by kernel_rfl)) <|
                  .cons (d := some 87) (by kernel_rfl) (does_bool (b' := false) (does_pure (v := .bool (decide (dy < 0))) (by kernel_rfl) (fun w => by kernel_rfl) (by kernel_rfl)) (h8)) <|
                  .cons (d := some 88) (by kernel_rfl) (does_move (x := .tmp 87) (v := .bool false) (by kernel_rfl) (by kernel_rfl)) <|
                  .cons (d := some 89) (by kernel_rfl) (does_fieldAddr (s := 24) (x := .tmp 8) (f := 1) (k := 2) (off := 0) (d := 1) (by kernel_rfl) (by kernel_rfl) (by kernel_rfl)) <|
                  .cons (d := some 90) (by kernel_rfl) (does_load (t := 3) (x := .tmp 89) (k := 2) (off := 1) (b := ⟨[.int .i64 e_x, .int .i64 e_y], 24, true, 2⟩) (v := .int .i64 e_y) (by kernel_rfl) (by kernel_rfl) (by kernel_rfl) (by kernel_rfl)) <|
                  .cons (d := some 91) (by kernel_rfl) (does_bool (b' := false) (does_pure (v := .bool (decide (e_y < 0))) (by kernel_rfl) (fun w => by kernel_rfl) (by kernel_rfl)) (h9)) <|
                  .cons (d := some 92) (by kernel_rfl) (does_pick (c := .tmp 88) (x := .const (.bool true)) (y := .tmp 91) (b := false) (v := .bool false) (by kernel_rfl) (by kernel_rfl) (by kernel_rfl)) <|
                  .cons (d := some 93) (by kernel_rfl) (does_move (x := .tmp 92) (v := .bool false) (by kernel_rfl) (by kernel_rfl)) <|
                  .cons (d := some 94) (by kernel_rfl) (does_fieldAddr (s := 24) (x := .tmp 7) (f := 0) (k := 1) (off := 0) (d := 0) (by kernel_rfl) (by kernel_rfl) (by kernel_rfl)) <|
                  .cons (d := some 95) (by kernel_rfl) (does_load (t := 3) (x := .tmp 94) (k := 1) (off := 0) (b := ⟨[.int .i64 dx, .int .i64 dy], 24, true, 2⟩) (v := .int .i64 dx) (by kernel_rfl) (by kernel_rfl) (by kernel_rfl) (by kernel_rfl)) <|
                  .cons (d := some 96) (by kernel_rfl) (does_bool (b' := true) (does_pure (v := .bool (decide (dx < 0))) (by kernel_rfl) (fun w => by kernel_rfl) (by kernel_rfl)) (h10)) <|
                  .cons (d := some 97) (by kernel_rfl) (does_move (x := .tmp 96) (v := .bool true) (by kernel_rfl) (by kernel_rfl)) <|
                  .cons (d := some 98) (by kernel_rfl) (does_fieldAddr (s := 24) (x := .tmp 7) (f := 1) (k := 1) (off := 0) (d := 1) (by kernel_rfl) (by kernel_rfl) (by kernel_rfl)) <|
                  .cons (d := some 99) (by kernel_rfl) (does_load (t := 3) (x := .tmp 98) (k := 1) (off := 1) (b := ⟨[.int .i64 dx, .int .i64 dy], 24, true, 2⟩) (v := .int .i64 dy) (by kernel_rfl) (by kernel_rfl) (by kernel_rfl) (by kernel_rfl)) <|
                  .cons (d := some 100) (by kernel_rfl) (does_bool (b' := true) (does_pure (v := .bool (dy == 0)) (by kernel_rfl) (fun w => by kernel_rfl) (by kernel_rfl)) (h11)) <|
                  .cons (d := some 101) (by kernel_rfl) (does_pick (c := .tmp 97) (x := .tmp 100) (y := .const (.bool false)) (b := true) (v := .bool true) (by kernel_rfl) (by kernel_rfl) (by kernel_rfl)) <|
                  .cons (d := some 102) (by kernel_rfl) (does_pick (c := .tmp 93) (x := .const (.bool true)) (y := .tmp 101) (b := false) (v := .bool true) (by kernel_rfl) (by kernel_rfl) (by kernel_rfl)) <|
                  .cons (d := some 103) (by kernel_rfl) (does_move (x := .tmp 102) (v := .bool true) (by kernel_rfl) (by kernel_rfl)) <|
                  .cons (d := some 104) (by kernel_rfl) (does_skipB (by kernel_rfl)) <|
                  .cons (d := some 105) (by kernel_rfl) (does_skipB (by kernel_rfl)) <|
                  .cons (d := some 106) (by kernel_rfl) (does_skipB (by kernel_rfl)) <|
                  .cons (d := some 107) (by kernel_rfl) (does_skipB (by kernel_rfl)) <|
                  .cons (d := some 108) (by kernel_rfl) (does_skipB (by kernel_rfl)) <|
                  .cons (d := some 109) (by kernel_rfl) (does_skipB (by kernel_rfl)) <|
                  .cons (d := some 110) (by kernel_rfl) (does_skipB (by kernel_rfl)) <|
                  .cons (d := some 111) (by kernel_rfl) (does_skipB (by kernel_rfl)) <|
                  .cons (d := some 112) (by kernel_rfl) (does_pick (c := .tmp 103) (x := .const (.bool true)) (y := .tmp 111) (b := true) (v := .bool true) (by kernel_rfl) (by kernel_rfl) (by kernel_rfl)) <|
                  .nil _ _) ?_
              refine aw_weak (weak_b (T := [(6, .bool false), (7, .pointer (some ⟨1, 0, none⟩)), (8, .pointer (some ⟨2, 0, none⟩)), (9, .pointer (some ⟨3, 0, none⟩)), (10, .int .i64 (Sp.angle dx dy e_x e_y)), (18, .bool false), (112, .bool true)]) (L := [(1, ⟨[.int .i64 dx, .int .i64 dy], 24, true, 2⟩), (2, ⟨[.int .i64 e_x, .int .i64 e_y], 24, true, 2⟩), (3, ⟨[.int .i64 fx, .int .i64 fy], 24, true, 2⟩)]) (by kernel_rfl) (by kernel_rfl) (by kernel_rfl)) ?_
              refine aw_true (o := .tmp 112) (x := sub (bodyOf Try.f9) [true, true, true, true, true, true, false, true, false]) (y := sub (bodyOf Try.f9) [true, true, true, true, true, true, false, true, true]) (by kernel_rfl) (by kernel_rfl) ?_
              refine aw_plain_seq (r := sub (bodyOf Try.f9) [true, true, true, true, true, true, false, true, false, false]) (y := sub (bodyOf Try.f9) [true, true, true, true, true, true, false, true, false, true]) (id := 10) (ops := regOps (sub (bodyOf Try.f9) [true, true, true, true, true, true, false, true, false, false])) (by kernel_rfl) (by kernel_rfl) (by kernel_rfl) (by kernel_rfl) (
                  .cons (d := some 6) (by kernel_rfl) (does_assign (x := .const (.bool true)) (v := .bool true) (by kernel_rfl) (by kernel_rfl)) <|
                  .nil _ _) ?_
              refine aw_weak (weak_b (T := [(6, .bool true), (7, .pointer (some ⟨1, 0, none⟩)), (8, .pointer (some ⟨2, 0, none⟩)), (9, .pointer (some ⟨3, 0, none⟩)), (10, .int .i64 (Sp.angle dx dy e_x e_y)), (18, .bool false), (112, .bool true)]) (L := [(1, ⟨[.int .i64 dx, .int .i64 dy], 24, true, 2⟩), (2, ⟨[.int .i64 e_x, .int .i64 e_y], 24, true, 2⟩), (3, ⟨[.int .i64 fx, .int .i64 fy], 24, true, 2⟩)]) (by kernel_rfl) (by kernel_rfl) (by kernel_rfl)) ?_
              refine aw_ret (by kernel_rfl) ?_
              refine then_ret ?_
              exact end_ret (vs := [.bool true]) (by kernel_rfl) (by kernel_rfl) trivial
            · have h11p : ¬ ((dy = 0)) := by first | (simpa using h11) | (have h11q := h11; simp at h11q; omega) | (have h11q := bx2 h11; simp at h11q; omega)
              rcases Bool.eq_false_or_eq_true (decide (e_x < 0)) with h12 | h12
              · have h12p : ((e_x < 0)) := by first | (simpa using h12) | (have h12q := h12; simp at h12q; omega) | (have h12q := bx1 h12; simp at h12q; omega)
                refine aw_plain_seq (r := sub (bodyOf Try.f9) [true, true, true, true, true, true, false, false]) (y := sub (bodyOf Try.f9) [true, true, true, true, true, true, false, true]) (id := 9) (ops := regOps (sub (bodyOf Try.f9) [true, true, true, true, true, true, false, false])) (by kernel_rfl) (by kernel_rfl) (by kernel_rfl) (by kernel_rfl) (
                    .cons (d := some 85) (by kernel_rfl) (does_fieldAddr (s := 24) (x := .tmp 7) (f := 1) (k := 1) (off := 0) (d := 1) (by kernel_rfl) (by kernel_rfl) (by kernel_rfl)) <|
                    .cons (d := some 86) (by kernel_rfl) (does_load (t := 3) (x := .tmp 85) (k := 1) (off := 1) (b := ⟨[.int .i64 dx, .int .i64 dy], 24, true, 2⟩) (v := .int .i64 dy) (by kernel_rfl) (by kernel_rfl) (by kernel_rfl) (by kernel_rfl)) <|
                    .cons (d := some 87) (by kernel_rfl) (does_bool (b' := false) (does_pure (v := .bool (decide (dy < 0))) (by kernel_rfl) (fun w => by kernel_rfl) (by kernel_rfl)) (h8)) <|
                    .cons (d := some 88) (by kernel_rfl) (does_move (x := .tmp 87) (v := .bool false) (by kernel_rfl) (by kernel_rfl)) <|
                    .cons (d := some 89) (by kernel_rfl) (does_fieldAddr (s := 24) (x := .tmp 8) (f := 1) (k := 2) (off := 0) (d := 1) (by kernel_rfl) (by kernel_rfl) (by kernel_rfl)) <|
                    .cons (d := some 90) (by kernel_rfl) (does_load (t := 3) (x := .tmp 89) (k := 2) (off := 1) (b := ⟨[.int .i64 e_x, .int .i64 e_y], 24, true, 2⟩) (v := .int .i64 e_y) (by kernel_rfl) (by kernel_rfl) (by kernel_rfl) (by kernel_rfl)) <|
                    .cons (d := some 91) (by kernel_rfl) (does_bool (b' := false) (does_pure (v := .bool (decide (e_y < 0))) (by kernel_rfl) (fun w => by kernel_rfl) (by kernel_rfl)) (h9)) <|
                    .cons (d := some 92) (by kernel_rfl) (does_pick (c := .tmp 88) (x := .const (.bool true)) (y := .tmp 91) (b := false) (v := .bool false) (by kernel_rfl) (by kernel_rfl) (by kernel_rfl)) <|
                    .cons (d := some 93) (by kernel_rfl) (does_move (x := .tmp 92) (v := .bool false) (by kernel_rfl) (by kernel_rfl)) <|
                    .cons (d := some 94) (by kernel_rfl) (does_fieldAddr (s := 24) (x := .tmp 7) (f := 0) (k := 1) (off := 0) (d := 0) (by kernel_rfl) (by kernel_rfl) (by kernel_rfl)) <|
                    .cons (d := some 95) (by kernel_rfl) (does_load (t := 3) (x := .tmp 94) (k := 1) (off := 0) (b := ⟨[.int .i64 dx, .int .i64 dy], 24, true, 2⟩) (v := .int .i64 dx) (by kernel_rfl) (by kernel_rfl) (by kernel_rfl) (by kernel_rfl)) <|
                    .cons (d := some 96) (by kernel_rfl) (does_bool (b' := true) (does_pure (v := .bool (decide (dx < 0))) (by kernel_rfl) (fun w => by kernel_rfl) (by kernel_rfl)) (h10)) <|
                    .cons (d := some 97) (by kernel_rfl) (does_move (x := .tmp 96) (v := .bool true) (by kernel_rfl) (by kernel_rfl)) <|
                    .cons (d := some 98) (by kernel_rfl) (does_fieldAddr (s := 24) (x := .tmp 7) (f := 1) (k := 1) (off := 0) (d := 1) (by kernel_rfl) (by kernel_rfl) (by kernel_rfl)) <|
                    .cons (d := some 99) (by kernel_rfl) (does_load (t := 3) (x := .tmp 98) (k := 1) (off := 1) (b := ⟨[.int .i64 dx, .int .i64 dy], 24, true, 2⟩) (v := .int .i64 dy) (by kernel_rfl) (by kernel_rfl) (by kernel_rfl) (by kernel_rfl)) <|
                    .cons (d := some 100) (by kernel_rfl) (does_bool (b' := false) (does_pure (v := .bool (dy == 0)) (by kernel_rfl) (fun w => by kernel_rfl) (by kernel_rfl)) (h11)) <|
                    .cons (d := some 101) (by kernel_rfl) (does_pick (c := .tmp 97) (x := .tmp 100) (y := .const (.bool false)) (b := true) (v := .bool false) (by kernel_rfl) (by kernel_rfl) (by kernel_rfl)) <|
                    .cons (d := some 102) (by kernel_rfl) (does_pick (c := .tmp 93) (x := .const (.bool true)) (y := .tmp 101) (b := false) (v := .bool false) (by kernel_rfl) (by kernel_rfl) (by kernel_rfl)) <|
                    .cons (d := some 103) (by kernel_rfl) (does_move (x := .tmp 102) (v := .bool false) (by kernel_rfl) (by kernel_rfl)) <|
                    .cons (d := some 104) (by kernel_rfl) (does_fieldAddr (s := 24) (x := .tmp 8) (f := 0) (k := 2) (off := 0) (d := 0) (by kernel_rfl) (by kernel_rfl) (by kernel_rfl)) <|
                    .cons (d := some 105) (by kernel_rfl) (does_load (t := 3) (x := .tmp 104) (k := 2) (off := 0) (b := ⟨[.int .i64 e_x, .int .i64 e_y], 24, true, 2⟩) (v := .int .i64 e_x) (by kernel_rfl) (by kernel_rfl) (by kernel_rfl) (by kernel_rfl)) <|
                    .cons (d := some 106) (by kernel_rfl) (does_bool (b' := true) (does_pure (v := .bool (decide (e_x < 0))) (by kernel_rfl) (fun w => by kernel_rfl) (by kernel_rfl)) (h12)) <|
                    .cons (d := some 107) (by kernel_rfl) (does_move (x := .tmp 106) (v := .bool true) (by kernel_rfl) (by kernel_rfl)) <|
                    .cons (d := some 108) (by kernel_rfl) (does_fieldAddr (s := 24) (x := .tmp 8) (f := 1) (k := 2) (off := 0) (d := 1) (by kernel_rfl) (by kernel_rfl) (by kernel_rfl)) <|
                    .cons (d := some 109) (by kernel_rfl) (does_load (t := 3) (x := .tmp 108) (k := 2) (off := 1) (b := ⟨[.int .i64 e_x, .int .i64 e_y], 24, true, 2⟩) (v := .int .i64 e_y) (by kernel_rfl) (by kernel_rfl) (by kernel_rfl) (by kernel_rfl)) <|
                    .cons (d := some 110) (by kernel_rfl) (does_pure (v := .bool (e_y == 0)) (by kernel_rfl) (fun w => by kernel_rfl) (by kernel_rfl)) <|
                    .cons (d := some 111) (by kernel_rfl) (does_pick (c := .tmp 107) (x := .tmp 110) (y := .const (.bool false)) (b := true) (v := .bool (e_y == 0)) (by kernel_rfl) (by kernel_rfl) (by kernel_rfl)) <|
                    .cons (d := some 112) (by kernel_rfl) (does_pick (c := .tmp 103) (x := .const (.bool true)) (y := .tmp 111) (b := false) (v := .bool (e_y == 0)) (by kernel_rfl) (by kernel_rfl) (by kernel_rfl)) <|
                    .nil _ _) ?_
                refine aw_weak (weak_b (T := [(6, .bool false), (7, .pointer (some ⟨1, 0, none⟩)), (8, .pointer (some ⟨2, 0, none⟩)), (9, .pointer (some ⟨3, 0, none⟩)), (10, .int .i64 (Sp.angle dx dy e_x e_y)), (18, .bool false), (112, .bool (e_y == 0))]) (L := [(1, ⟨[.int .i64 dx, .int .i64 dy], 24, true, 2⟩), (2, ⟨[.int .i64 e_x, .int .i64 e_y], 24, true, 2⟩), (3, ⟨[.int .i64 fx, .int .i64 fy], 24, true, 2⟩)]) (by kernel_rfl) (by kernel_rfl) (by kernel_rfl)) ?_
                refine aw_cond (o := .tmp 112) (b := e_y == 0) (x := sub (bodyOf Try.f9) [true, true, true, true, true, true, false, true, false]) (y := sub (bodyOf Try.f9) [true, true, true, true, true, true, false, true, true]) (by kernel_rfl) (by kernel_rfl) (fun h14 => ?_) (fun h14 => ?_)
                · have h14p : ((e_y = 0)) := by first | (simpa using h14) | (have h14q := h14; simp at h14q; omega) | (have h14q := bx1 h14; simp at h14q; omega)
                  refine aw_plain_seq (r := sub (bodyOf Try.f9) [true, true, true, true, true, true, false, true, false, false]) (y := sub (bodyOf Try.f9) [true, true, true, true, true, true, false, true, false, true]) (id := 10) (ops := regOps (sub (bodyOf Try.f9) [true, true, true, true, true, true, false, true, false, false])) (by kernel_rfl) (by kernel_rfl) (by kernel_rfl) (by kernel_rfl) (
                      .cons (d := some 6) (by kernel_rfl) (does_assign (x := .const (.bool true)) (v := .bool true) (by kernel_rfl) (by kernel_rfl)) <|
                      .nil _ _) ?_
                  refine aw_weak (weak_b (T := [(6, .bool true), (7, .pointer (some ⟨1, 0, none⟩)), (8, .pointer (some ⟨2, 0, none⟩)), (9, .pointer (some ⟨3, 0, none⟩)), (10, .int .i64 (Sp.angle dx dy e_x e_y)), (18, .bool false), (112, .bool (e_y == 0))]) (L := [(1, ⟨[.int .i64 dx, .int .i64 dy], 24, true, 2⟩), (2, ⟨[.int .i64 e_x, .int .i64 e_y], 24, true, 2⟩), (3, ⟨[.int .i64 fx, .int .i64 fy], 24, true, 2⟩)]) (by kernel_rfl) (by kernel_rfl) (by kernel_rfl)) ?_
                  refine aw_ret (by kernel_rfl) ?_
                  refine then_ret ?_
                  exact end_ret (vs := [.bool true]) (by kernel_rfl) (by kernel_rfl) trivial
                · have h14p : ¬ ((e_y = 0)) := by first | (simpa using h14) | (have h14q := h14; simp at h14q; omega) | (have h14q := bx2 h14; simp at h14q; omega)
                  refine aw_skip (by kernel_rfl) ?_
                  refine then_normal ?_
                  refine aw_weak (weak_b (T := [(6, .bool false), (7, .pointer (some ⟨1, 0, none⟩)), (8, .pointer (some ⟨2, 0, none⟩)), (9, .pointer (some ⟨3, 0, none⟩)), (10, .int .i64 (Sp.angle dx dy e_x e_y)), (18, .bool false)]) (L := [(1, ⟨[.int .i64 dx, .int .i64 dy], 24, true, 2⟩), (2, ⟨[.int .i64 e_x, .int .i64 e_y], 24, true, 2⟩), (3, ⟨[.int .i64 fx, .int .i64 fy], 24, true, 2⟩)]) (by kernel_rfl) (by kernel_rfl) (by kernel_rfl)) ?_
                  exact K3 (by omega)
              · have h12p : ¬ ((e_x < 0)) := by first | (simpa using h12) | (have h12q := h12; simp at h12q; omega) | (have h12q := bx2 h12; simp at h12q; omega)
                refine aw_plain_seq (r := sub (bodyOf Try.f9) [true, true, true, true, true, true, false, false]) (y := sub (bodyOf Try.f9) [true, true, true, true, true, true, false, true]) (id := 9) (ops := regOps (sub (bodyOf Try.f9) [true, true, true, true, true, true, false, false])) (by kernel_rfl) (by kernel_rfl) (by kernel_rfl) (by kernel_rfl) (
                    .cons (d := some 85) (by kernel_rfl) (does_fieldAddr (s := 24) (x := .tmp 7) (f := 1) (k := 1) (off := 0) (d := 1) (by kernel_rfl) (by kernel_rfl) (by kernel_rfl)) <|
                    .cons (d := some 86) (by kernel_rfl) (does_load (t := 3) (x := .tmp 85) (k := 1) (off := 1) (b := ⟨[.int .i64 dx, .int .i64 dy], 24, true, 2⟩) (v := .int .i64 dy) (by kernel_rfl) (by kernel_rfl) (by kernel_rfl) (by kernel_rfl)) <|
                    .cons (d := some 87) (by kernel_rfl) (does_bool (b' := false) (does_pure (v := .bool (decide (dy < 0))) (by kernel_rfl) (fun w => by kernel_rfl) (by kernel_rfl)) (h8)) <|
                    .cons (d := some 88) (by kernel_rfl) (does_move (x := .tmp 87) (v := .bool false) (by kernel_rfl) (by kernel_rfl)) <|
                    .cons (d := some 89) (by kernel_rfl) (does_fieldAddr (s := 24) (x := .tmp 8) (f := 1) (k := 2) (off := 0) (d := 1) (by kernel_rfl) (by kernel_rfl) (by kernel_rfl)) <|
                    .cons (d := some 90) (by kernel_rfl) (does_load (t := 3) (x := .tmp 89) (k := 2) (off := 1) (b := ⟨[.int .i64 e_x, .int .i64 e_y], 24, true, 2⟩) (v := .int .i64 e_y) (by kernel_rfl) (by kernel_rfl) (by kernel_rfl) (by kernel_rfl)) <|
                    .cons (d := some 91) (by kernel_rfl) (does_bool (b' := false) (does_pure (v := .bool (decide (e_y < 0))) (by kernel_rfl) (fun w => by kernel_rfl) (by kernel_rfl)) (h9)) <|
                    .cons (d := some 92) (by kernel_rfl) (does_pick (c := .tmp 88) (x := .const (.bool true)) (y := .tmp 91) (b := false) (v := .bool false) (by kernel_rfl) (by kernel_rfl) (by kernel_rfl)) <|
                    .cons (d := some 93) (by kernel_rfl) (does_move (x := .tmp 92) (v := .bool false) (by kernel_rfl) (by kernel_rfl)) <|
                    .cons (d := some 94) (by kernel_rfl) (does_fieldAddr (s := 24) (x := .tmp 7) (f := 0) (k := 1) (off := 0) (d := 0) (by kernel_rfl) (by kernel_rfl) (by kernel_rfl)) <|
                    .cons (d := some 95) (by kernel_rfl) (does_load (t := 3) (x := .tmp 94) (k := 1) (off := 0) (b := ⟨[.int .i64 dx, .int .i64 dy], 24, true, 2⟩) (v := .int .i64 dx) (by kernel_rfl) (by kernel_rfl) (by kernel_rfl) (by kernel_rfl)) <|
                    .cons (d := some 96) (by kernel_rfl) (does_bool (b' := true) (does_pure (v := .bool (decide (dx < 0))) (by kernel_rfl) (fun w => by kernel_rfl) (by kernel_rfl)) (h10)) <|
                    .cons (d := some 97) (by kernel_rfl) (does_move (x := .tmp 96) (v := .bool true) (by kernel_rfl) (by kernel_rfl)) <|
                    .cons (d := some 98) (by kernel_rfl) (does_fieldAddr (s := 24) (x := .tmp 7) (f := 1) (k := 1) (off := 0) (d := 1) (by kernel_rfl) (by kernel_rfl) (by kernel_rfl)) <|
                    .cons (d := some 99) (by kernel_rfl) (does_load (t := 3) (x := .tmp 98) (k := 1) (off := 1) (b := ⟨[.int .i64 dx, .int .i64 dy], 24, true, 2⟩) (v := .int .i64 dy) (by kernel_rfl) (by kernel_rfl) (by kernel_rfl) (by kernel_rfl)) <|
                    .cons (d := some 100) (by kernel_rfl) (does_bool (b' := false) (does_pure (v := .bool (dy == 0)) (by kernel_rfl) (fun w => by kernel_rfl) (by kernel_rfl)) (h11)) <|
                    .cons (d := some 101) (by kernel_rfl) (does_pick (c := .tmp 97) (x := .tmp 100) (y := .const (.bool false)) (b := true) (v := .bool false) (by kernel_rfl) (by kernel_rfl) (by kernel_rfl)) <|
                    .cons (d := some 102) (by kernel_rfl) (does_pick (c := .tmp 93) (x := .const (.bool true)) (y := .tmp 101) (b := false) (v := .bool false) (by kernel_rfl) (by kernel_rfl) (by kernel_rfl)) <|
                    .cons (d := some 103) (by kernel_rfl) (does_move (x := .tmp 102) (v := .bool false) (by kernel_rfl) (by kernel_rfl)) <|
                    .cons (d := some 104) (by kernel_rfl) (does_fieldAddr (s := 24) (x := .tmp 8) (f := 0) (k := 2) (off := 0) (d := 0) (by kernel_rfl) (by kernel_rfl) (by kernel_rfl)) <|
                    .cons (d := some 105) (by kernel_rfl) (does_load (t := 3) (x := .tmp 104) (k := 2) (off := 0) (b := ⟨[.int .i64 e_x, .int .i64 e_y], 24, true, 2⟩) (v := .int .i64 e_x) (by kernel_rfl) (by kernel_rfl) (by kernel_rfl) (by kernel_rfl)) <|
                    .cons (d := some 106) (by kernel_rfl) (does_bool (b' := false) (does_pure (v := .bool (decide (e_x < 0))) (by kernel_rfl) (fun w => by kernel_rfl) (by kernel_rfl)) (h12)) <|
                    .cons (d := some 107) (by kernel_rfl) (does_move (x := .tmp 106) (v := .bool false) (by kernel_rfl) (by kernel_rfl)) <|
                    .cons (d := some 108) (by kernel_rfl) (does_skipB (by kernel_rfl)) <|
                    .cons (d := some 109) (by kernel_rfl) (does_skipB (by kernel_rfl)) <|
                    .cons (d := some 110) (by kernel_rfl) (does_skipB (by kernel_rfl)) <|
                    .cons (d := some 111) (by kernel_rfl) (does_pick (c := .tmp 107) (x := .tmp 110) (y := .const (.bool false)) (b := false) (v := .bool false) (by kernel_rfl) (by kernel_rfl) (by kernel_rfl)) <|
                    .cons (d := some 112) (by kernel_rfl) (does_pick (c := .tmp 103) (x := .const (.bool true)) (y := .tmp 111) (b := false) (v := .bool false) (by kernel_rfl) (by kernel_rfl) (by kernel_rfl)) <|
                    .nil _ _) ?_
                refine aw_weak (weak_b (T := [(6, .bool false), (7, .pointer (some ⟨1, 0, none⟩)), (8, .pointer (some ⟨2, 0, none⟩)), (9, .pointer (some ⟨3, 0, none⟩)), (10, .int .i64 (Sp.angle dx dy e_x e_y)), (18, .bool false), (112, .bool false)]) (L := [(1, ⟨[.int .i64 dx, .int .i64 dy], 24, true, 2⟩), (2, ⟨[.int .i64 e_x, .int .i64 e_y], 24, true, 2⟩), (3, ⟨[.int .i64 fx, .int .i64 fy], 24, true, 2⟩)]) (by kernel_rfl) (by kernel_rfl) (by kernel_rfl)) ?_
                refine aw_false (o := .tmp 112) (x := sub (bodyOf Try.f9) [true, true, true, true, true, true, false, true, false]) (y := sub (bodyOf Try.f9) [true, true, true, true, true, true, false, true, true]) (by kernel_rfl) (by kernel_rfl) ?_
                refine aw_skip (by kernel_rfl) ?_
                refine then_normal ?_
                refine aw_weak (weak_b (T := [(6, .bool false), (7, .pointer (some ⟨1, 0, none⟩)), (8, .pointer (some ⟨2, 0, none⟩)), (9, .pointer (some ⟨3, 0, none⟩)), (10, .int .i64 (Sp.angle dx dy e_x e_y)), (18, .bool false)]) (L := [(1, ⟨[.int .i64 dx, .int .i64 dy], 24, true, 2⟩), (2, ⟨[.int .i64 e_x, .int .i64 e_y], 24, true, 2⟩), (3, ⟨[.int .i64 fx, .int .i64 fy], 24, true, 2⟩)]) (by kernel_rfl) (by kernel_rfl) (by kernel_rfl)) ?_
                exact K3 (by omega)
          · have h10p : ¬ ((dx < 0)) := by first | (simpa using h10) | (have h10q := h10; simp at h10q; omega) | (have h10q := bx2 h10; simp at h10q; omega)
            rcases Bool.eq_false_or_eq_true (decide (e_x < 0)) with h13 | h13
            · have h13p : ((e_x < 0)) := by first | (simpa using h13) | (have h13q := h13; simp at h13q; omega) | (have h13q := bx1 h13; simp at h13q; omega)
              refine aw_plain_seq (r := sub (bodyOf Try.f9) [true, true, true, true, true, true, false, false]) (y := sub (bodyOf Try.f9) [true, true, true, true, true, true, false, true]) (id := 9) (ops := regOps (sub (bodyOf Try.f9) [true, true, true, true, true, true, false, false])) (by kernel_rfl) (by kernel_rfl) (by kernel_rfl) (by kernel_rfl) (
                  .cons (d := some 85) (by kernel_rfl) (does_fieldAddr (s := 24) (x := .tmp 7) (f := 1) (k := 1) (off := 0) (d := 1) (by kernel_rfl) (by kernel_rfl) (by kernel_rfl)) <|
                  .cons (d := some 86) (by kernel_rfl) (does_load (t := 3) (x := .tmp 85) (k := 1) (off := 1) (b := ⟨[.int .i64 dx, .int .i64 dy], 24, true, 2⟩) (v := .int .i64 dy) (by kernel_rfl) (by kernel_rfl) (by kernel_rfl) (by kernel_rfl)) <|
                  .cons (d := some 87) (by kernel_rfl) (does_bool (b' := false) (does_pure (v := .bool (decide (dy < 0))) (by kernel_rfl) (fun w => by kernel_rfl) (by kernel_rfl)) (h8)) <|
                  .cons (d := some 88) (by kernel_rfl) (does_move (x := .tmp 87) (v := .bool false) (by kernel_rfl) (by kernel_rfl)) <|
                  .cons (d := some 89) (by kernel_rfl) (does_fieldAddr (s := 24) (x := .tmp 8) (f := 1) (k := 2) (off := 0) (d := 1) (by kernel_rfl) (by kernel_rfl) (by kernel_rfl)) <|
                  .cons (d := some 90) (by kernel_rfl) (does_load (t := 3) (x := .tmp 89) (k := 2) (off := 1) (b := ⟨[.int .i64 e_x, .int .i64 e_y], 24, true, 2⟩) (v := .int .i64 e_y) (by kernel_rfl) (by kernel_rfl) (by kernel_rfl) (by kernel_rfl)) <|
                  .cons (d := some 91) (by kernel_rfl) (does_bool (b' := false) (does_pure (v := .bool (decide (e_y < 0))) (by kernel_rfl) (fun w => by kernel_rfl) (by kernel_rfl)) (h9)) <|
                  .cons (d := some 92) (by kernel_rfl) (does_pick (c := .tmp 88) (x := .const (.bool true)) (y := .tmp 91) (b := false) (v := .bool false) (by kernel_rfl) (by kernel_rfl) (by kernel_rfl)) <|
                  .cons (d := some 93) (by kernel_rfl) (does_move (x := .tmp 92) (v := .bool false) (by kernel_rfl) (by kernel_rfl)) <|
                  .cons (d := some 94) (by kernel_rfl) (does_fieldAddr (s := 24) (x := .tmp 7) (f := 0) (k := 1) (off := 0) (d := 0) (by kernel_rfl) (by kernel_rfl) (by kernel_rfl)) <|
                  .cons (d := some 95) (by kernel_rfl) (does_load (t := 3) (x := .tmp 94) (k := 1) (off := 0) (b := ⟨[.int .i64 dx, .int .i64 dy], 24, true, 2⟩) (v := .int .i64 dx) (by kernel_rfl) (by kernel_rfl) (by kernel_rfl) (by kernel_rfl)) <|
                  .cons (d := some 96) (by kernel_rfl) (does_bool (b' := false) (does_pure (v := .bool (decide (dx < 0))) (by kernel_rfl) (fun w => by kernel_rfl) (by kernel_rfl)) (h10)) <|
                  .cons (d := some 97) (by kernel_rfl) (does_move (x := .tmp 96) (v := .bool false) (by kernel_rfl) (by kernel_rfl)) <|
                  .cons (d := some 98) (by kernel_rfl) (does_skipB (by kernel_rfl)) <|
                  .cons (d := some 99) (by kernel_rfl) (does_skipB (by kernel_rfl)) <|
                  .cons (d := some 100) (by kernel_rfl) (does_skipB (by kernel_rfl)) <|
                  .cons (d := some 101) (by kernel_rfl) (does_pick (c := .tmp 97) (x := .tmp 100) (y := .const (.bool false)) (b := false) (v := .bool false) (by kernel_rfl) (by kernel_rfl) (by kernel_rfl)) <|
                  .cons (d := some 102) (by kernel_rfl) (does_pick (c := .tmp 93) (x := .const (.bool true)) (y := .tmp 101) (b := false) (v := .bool false) (by kernel_rfl) (by kernel_rfl) (by kernel_rfl)) <|
                  .cons (d := some 103) (by kernel_rfl) (does_move (x := .tmp 102) (v := .bool false) (by kernel_rfl) (by kernel_rfl)) <|
                  .cons (d := some 104) (by kernel_rfl) (does_fieldAddr (s := 24) (x := .tmp 8) (f := 0) (k := 2) (off := 0) (d := 0) (by kernel_rfl) (by kernel_rfl) (by kernel_rfl)) <|
                  .cons (d := some 105) (by kernel_rfl) (does_load (t := 3) (x := .tmp 104) (k := 2) (off := 0) (b := ⟨[.int .i64 e_x, .int .i64 e_y], 24, true, 2⟩) (v := .int .i64 e_x) (by kernel_rfl) (by kernel_rfl) (by kernel_rfl) (by kernel_rfl)) <|
                  .cons (d := some 106) (by kernel_rfl) (does_bool (b' := true) (does_pure (v := .bool (decide (e_x < 0))) (by kernel_rfl) (fun w => by kernel_rfl) (by kernel_rfl)) (h13)) <|
                  .cons (d := some 107) (by kernel_rfl) (does_move (x := .tmp 106) (v := .bool true) (by kernel_rfl) (by kernel_rfl)) <|
                  .cons (d := some 108) (by kernel_rfl) (does_fieldAddr (s := 24) (x := .tmp 8) (f := 1) (k := 2) (off := 0) (d := 1) (by kernel_rfl) (by kernel_rfl) (by kernel_rfl)) <|
                  .cons (d := some 109) (by kernel_rfl) (does_load (t := 3) (x := .tmp 108) (k := 2) (off := 1) (b := ⟨[.int .i64 e_x, .int .i64 e_y], 24, true, 2⟩) (v := .int .i64 e_y) (by kernel_rfl) (by kernel_rfl) (by kernel_rfl) (by kernel_rfl)) <|
                  .cons (d := some 110) (by kernel_rfl) (does_pure (v := .bool (e_y == 0)) (by kernel_rfl) (fun w => by kernel_rfl) (by kernel_rfl)) <|
                  .cons (d := some 111) (by kernel_rfl) (does_pick (c := .tmp 107) (x := .tmp 110) (y := .const (.bool false)) (b := true) (v := .bool (e_y == 0)) (by kernel_rfl) (by kernel_rfl) (by kernel_rfl)) <|
                  .cons (d := some 112) (by kernel_rfl) (does_pick (c := .tmp 103) (x := .const (.bool true)) (y := .tmp 111) (b := false) (v := .bool (e_y == 0)) (by kernel_rfl) (by kernel_rfl) (by kernel_rfl)) <|
                  .nil _ _) ?_
              refine aw_weak (weak_b (T := [(6, .bool false), (7, .pointer (some ⟨1, 0, none⟩)), (8, .pointer (some ⟨2, 0, none⟩)), (9, .pointer (some ⟨3, 0, none⟩)), (10, .int .i64 (Sp.angle dx dy e_x e_y)), (18, .bool false), (112, .bool (e_y == 0))]) (L := [(1, ⟨[.int .i64 dx, .int .i64 dy], 24, true, 2⟩), (2, ⟨[.int .i64 e_x, .int .i64 e_y], 24, true, 2⟩), (3, ⟨[.int .i64 fx, .int .i64 fy], 24, true, 2⟩)]) (by kernel_rfl) (by kernel_rfl) (by kernel_rfl)) ?_
              refine aw_cond (o := .tmp 112) (b := e_y == 0) (x := sub (bodyOf Try.f9) [true, true, true, true, true, true, false, true, false]) (y := sub (bodyOf Try.f9) [true, true, true, true, true, true, false, true, true]) (by kernel_rfl) (by kernel_rfl) (fun h15 => ?_) (fun h15 => ?_)
              · have h15p : ((e_y = 0)) := by first | (simpa using h15) | (have h15q := h15; simp at h15q; omega) | (have h15q := bx1 h15; simp at h15q; omega)
                refine aw_plain_seq (r := sub (bodyOf Try.f9) [true, true, true, true, true, true, false, true, false, false]) (y := sub (bodyOf Try.f9) [true, true, true, true, true, true, false, true, false, true]) (id := 10) (ops := regOps (sub (bodyOf Try.f9) [true, true, true, true, true, true, false, true, false, false])) (by kernel_rfl) (by kernel_rfl) (by kernel_rfl) (by kernel_rfl) (
                    .cons (d := some 6) (by kernel_rfl) (does_assign (x := .const (.bool true)) (v := .bool true) (by kernel_rfl) (by kernel_rfl)) <|
                    .nil _ _) ?_
                refine aw_weak (weak_b (T := [(6, .bool true), (7, .pointer (some ⟨1, 0, none⟩)), (8, .pointer (some ⟨2, 0, none⟩)), (9, .pointer (some ⟨3, 0, none⟩)), (10, .int .i64 (Sp.angle dx dy e_x e_y)), (18, .bool false), (112, .bool (e_y == 0))]) (L := [(1, ⟨[.int .i64 dx, .int .i64 dy], 24, true, 2⟩), (2, ⟨[.int .i64 e_x, .int .i64 e_y], 24, true, 2⟩), (3, ⟨[.int .i64 fx, .int .i64 fy], 24, true, 2⟩)]) (by kernel_rfl) (by kernel_rfl) (by kernel_rfl)) ?_
                refine aw_ret (by kernel_rfl) ?_
                refine then_ret ?_
                exact end_ret (vs := [.bool true]) (by kernel_rfl) (by kernel_rfl) trivial
              · have h15p : ¬ ((e_y = 0)) := by first | (simpa using h15) | (have h15q := h15; simp at h15q; omega) | (have h15q := bx2 h15; simp at h15q; omega)
                refine aw_skip (by kernel_rfl) ?_
                refine then_normal ?_
                refine aw_weak (weak_b (T := [(6, .bool false), (7, .pointer (some ⟨1, 0, none⟩)), (8, .pointer (some ⟨2, 0, none⟩)), (9, .pointer (some ⟨3, 0, none⟩)), (10, .int .i64 (Sp.angle dx dy e_x e_y)), (18, .bool false)]) (L := [(1, ⟨[.int .i64 dx, .int .i64 dy], 24, true, 2⟩), (2, ⟨[.int .i64 e_x, .int .i64 e_y], 24, true, 2⟩), (3, ⟨[.int .i64 fx, .int .i64 fy], 24, true, 2⟩)]) (by kernel_rfl) (by kernel_rfl) (by kernel_rfl)) ?_
                exact K3 (by omega)
            · have h13p : ¬ ((e_x < 0)) := by first | (simpa using h13) | (have h13q := h13; simp at h13q; omega) | (have h13q := bx2 h13; simp at h13q; omega)
              refine aw_plain_seq (r := sub (bodyOf Try.f9) [true, true, true, true, true, true, false, false]) (y := sub (bodyOf Try.f9) [true, true, true, true, true, true, false, true]) (id := 9) (ops := regOps (sub (bodyOf Try.f9) [true, true, true, true, true, true, false, false])) (by kernel_rfl) (by kernel_rfl) (by kernel_rfl) (by kernel_rfl) (
                  .cons (d := some 85) (by kernel_rfl) (does_fieldAddr (s := 24) (x := .tmp 7) (f := 1) (k := 1) (off := 0) (d := 1) (by kernel_rfl) (by kernel_rfl) (by kernel_rfl)) <|
                  .cons (d := some 86) (by kernel_rfl) (does_load (t := 3) (x := .tmp 85) (k := 1) (off := 1) (b := ⟨[.int .i64 dx, .int .i64 dy], 24, true, 2⟩) (v := .int .i64 dy) (by kernel_rfl) (by kernel_rfl) (by kernel_rfl) (by kernel_rfl)) <|
                  .cons (d := some 87) (by kernel_rfl) (does_bool (b' := false) (does_pure (v := .bool (decide (dy < 0))) (by kernel_rfl) (fun w => by kernel_rfl) (by kernel_rfl)) (h8)) <|
                  .cons (d := some 88) (by kernel_rfl) (does_move (x := .tmp 87) (v := .bool false) (by kernel_rfl) (by kernel_rfl)) <|
                  .cons (d := some 89) (by kernel_rfl) (does_fieldAddr (s := 24) (x := .tmp 8) (f := 1) (k := 2) (off := 0) (d := 1) (by kernel_rfl) (by kernel_rfl) (by kernel_rfl)) <|
                  .cons (d := some 90) (by kernel_rfl) (does_load (t := 3) (x := .tmp 89) (k := 2) (off := 1) (b := ⟨[.int .i64 e_x, .int .i64 e_y], 24, true, 2⟩) (v := .int .i64 e_y) (by kernel_rfl) (by kernel_rfl) (by kernel_rfl) (by kernel_rfl)) <|
                  .cons (d := some 91) (by kernel_rfl) (does_bool (b' := false) (does_pure (v := .bool (decide (e_y < 0))) (by kernel_rfl) (fun w => by kernel_rfl) (by kernel_rfl)) (h9)) <|
                  .cons (d := some 92) (by kernel_rfl) (does_pick (c := .tmp 88) (x := .const (.bool true)) (y := .tmp 91) (b := false) (v := .bool false) (by kernel_rfl) (by kernel_rfl) (by kernel_rfl)) <|
                  .cons (d := some 93) (by kernel_rfl) (does_move (x := .tmp 92) (v := .bool false) (by kernel_rfl) (by kernel_rfl)) <|
                  .cons (d := some 94) (by kernel_rfl) (does_fieldAddr (s := 24) (x := .tmp 7) (f := 0) (k := 1) (off := 0) (d := 0) (by kernel_rfl) (by kernel_rfl) (by kernel_rfl)) <|
                  .cons (d := some 95) (by kernel_rfl) (does_load (t := 3) (x := .tmp 94) (k := 1) (off := 0) (b := ⟨[.int .i64 dx, .int .i64 dy], 24, true, 2⟩) (v := .int .i64 dx) (by kernel_rfl) (by kernel_rfl) (by kernel_rfl) (by kernel_rfl)) <|
                  .cons (d := some 96) (by kernel_rfl) (does_bool (b' := false) (does_pure (v := .bool (decide (dx < 0))) (by kernel_rfl) (fun w => by kernel_rfl) (by kernel_rfl)) (h10)) <|
                  .cons (d := some 97) (by kernel_rfl) (does_move (x := .tmp 96) (v := .bool false) (by kernel_rfl) (by kernel_rfl)) <|
                  .cons (d := some 98) (by kernel_rfl) (does_skipB (by kernel_rfl)) <|
                  .cons (d := some 99) (by kernel_rfl) (does_skipB (by kernel_rfl)) <|
                  .cons (d := some 100) (by kernel_rfl) (does_skipB (by kernel_rfl)) <|
                  .cons (d := some 101) (by kernel_rfl) (does_pick (c := .tmp 97) (x := .tmp 100) (y := .const (.bool false)) (b := false) (v := .bool false) (by kernel_rfl) (by kernel_rfl) (by kernel_rfl)) <|
                  .cons (d := some 102) (by kernel_rfl) (does_pick (c := .tmp 93) (x := .const (.bool true)) (y := .tmp 101) (b := false) (v := .bool false) (by kernel_rfl) (by kernel_rfl) (by kernel_rfl)) <|
                  .cons (d := some 103) (by kernel_rfl) (does_move (x := .tmp 102) (v := .bool false) (by kernel_rfl) (by kernel_rfl)) <|
                  .cons (d := some 104) (by kernel_rfl) (does_fieldAddr (s := 24) (x := .tmp 8) (f := 0) (k := 2) (off := 0) (d := 0) (by kernel_rfl) (by kernel_rfl) (by kernel_rfl)) <|
                  .cons (d := some 105) (by kernel_rfl) (does_load (t := 3) (x := .tmp 104) (k := 2) (off := 0) (b := ⟨[.int .i64 e_x, .int .i64 e_y], 24, true, 2⟩) (v := .int .i64 e_x) (by kernel_rfl) (by kernel_rfl) (by kernel_rfl) (by kernel_rfl)) <|
                  .cons (d := some 106) (by kernel_rfl) (does_bool (b' := false) (does_pure (v := .bool (decide (e_x < 0))) (by kernel_rfl) (fun w => by kernel_rfl) (by kernel_rfl)) (h13)) <|
                  .cons (d := some 107) (by kernel_rfl) (does_move (x := .tmp 106) (v := .bool false) (by kernel_rfl) (by kernel_rfl)) <|
                  .cons (d := some 108) (by kernel_rfl) (does_skipB (by kernel_rfl)) <|
                  .cons (d := some 109) (by kernel_rfl) (does_skipB (by kernel_rfl)) <|
                  .cons (d := some 110) (by kernel_rfl) (does_skipB (by kernel_rfl)) <|
                  .cons (d := some 111) (by kernel_rfl) (does_pick (c := .tmp 107) (x := .tmp 110) (y := .const (.bool false)) (b := false) (v := .bool false) (by kernel_rfl) (by kernel_rfl) (by kernel_rfl)) <|
                  .cons (d := some 112) (by kernel_rfl) (does_pick (c := .tmp 103) (x := .const (.bool true)) (y := .tmp 111) (b := false) (v := .bool false) (by kernel_rfl) (by kernel_rfl) (by kernel_rfl)) <|
                  .nil _ _) ?_
              refine aw_weak (weak_b (T := [(6, .bool false), (7, .pointer (some ⟨1, 0, none⟩)), (8, .pointer (some ⟨2, 0, none⟩)), (9, .pointer (some ⟨3, 0, none⟩)), (10, .int .i64 (Sp.angle dx dy e_x e_y)), (18, .bool false), (112, .bool false)]) (L := [(1, ⟨[.int .i64 dx, .int .i64 dy], 24, true, 2⟩), (2, ⟨[.int .i64 e_x, .int .i64 e_y], 24, true, 2⟩), (3, ⟨[.int .i64 fx, .int .i64 fy], 24, true, 2⟩)]) (by kernel_rfl) (by kernel_rfl) (by kernel_rfl)) ?_
              refine aw_false (o := .tmp 112) (x := sub (bodyOf Try.f9) [true, true, true, true, true, true, false, true, false]) (y := sub (bodyOf Try.f9) [true, true, true, true, true, true, false, true, true]) (by kernel_rfl) (by kernel_rfl) ?_
              refine aw_skip (by kernel_rfl) ?_
              refine then_normal ?_
              refine aw_weak (weak_b (T := [(6, .bool false), (7, .pointer (some ⟨1, 0, none⟩)), (8, .pointer (some ⟨2, 0, none⟩)), (9, .pointer (some ⟨3, 0, none⟩)), (10, .int .i64 (Sp.angle dx dy e_x e_y)), (18, .bool false)]) (L := [(1, ⟨[.int .i64 dx, .int .i64 dy], 24, true, 2⟩), (2, ⟨[.int .i64 e_x, .int .i64 e_y], 24, true, 2⟩), (3, ⟨[.int .i64 fx, .int .i64 fy], 24, true, 2⟩)]) (by kernel_rfl) (by kernel_rfl) (by kernel_rfl)) ?_
              exact K3 (by omega)
    rcases Bool.eq_false_or_eq_true (((dx == 0) && ((dy == 0) && true))) with h4 | h4
    · have h4p : ((dx = 0 ∧ dy = 0)) := by first | (simpa using h4) | (have h4q := h4; simp at h4q; omega) | (have h4q := bx1 h4; simp at h4q; omega)
      rcases Bool.eq_false_or_eq_true (((e_x == 0) && ((e_y == 0) && true))) with h5 | h5
      · have h5p : ((e_x = 0 ∧ e_y = 0)) := by first | (simpa using h5) | (have h5q := h5; simp at h5q; omega) | (have h5q := bx1 h5; simp at h5q; omega)
        refine aw_draws_seq (r := sub (bodyOf Try.f9) [true, true, true, true, true, false, false]) (y := sub (bodyOf Try.f9) [true, true, true, true, true, false, true]) (id := 7) (ops := regOps (sub (bodyOf Try.f9) [true, true, true, true, true, false, false])) [[], [0], [], [], [2, 3], [2, 3, 4], [2, 3, 4, 5], [2, 3, 4, 5], [2, 3, 4, 5, 6, 7], [2, 3, 4, 5, 6, 7, 8], [2, 3, 4, 5, 6, 7, 8, 9], [2, 3, 4, 5, 6, 7, 8, 9, 10], [2, 3, 4, 5, 6, 7, 8, 9, 10], [2, 3, 4, 5, 6, 7, 8, 9, 10, 11, 12], [2, 3, 4, 5, 6, 7, 8, 9, 10, 11, 12, 13], [2, 3, 4, 5, 6, 7, 8, 9, 10, 11, 12, 13, 14], [2, 3, 4, 5, 6, 7, 8, 9, 10, 11, 12, 13, 14], [2, 3, 4, 5, 6, 7, 8, 9, 10, 11, 12, 13, 14, 15, 16], [2, 3, 4, 5, 6, 7, 8, 9, 10, 11, 12, 13, 14, 15, 16, 17], [2, 3, 4, 5, 6, 7, 8, 9, 10, 11, 12, 13, 14, 15, 16, 17, 18], [2, 3, 4, 5, 6, 7, 8, 9, 10, 11, 12, 13, 14, 15, 16, 17, 18, 19], [2, 3, 4, 5, 6, 7, 8, 9, 10, 11, 12, 13, 14, 15, 16, 17, 18, 19], [2, 3, 4, 5, 6, 7, 8, 9, 10, 11, 12, 13, 14, 15, 16, 17, 18, 19], [2, 3, 4, 5, 6, 7, 8, 9, 10, 11, 12, 13, 14, 15, 16, 17, 18, 19, 20, 21, 22], [2, 3, 4, 5, 6, 7, 8, 9, 10, 11, 12, 13, 14, 15, 16, 17, 18, 19, 20, 21, 22, 23], [2, 3, 4, 5, 6, 7, 8, 9, 10, 11, 12, 13, 14, 15, 16, 17, 18, 19, 20, 21, 22, 23, 24], [2, 3, 4, 5, 6, 7, 8, 9, 10, 11, 12, 13, 14, 15, 16, 17, 18, 19, 20, 21, 22, 23, 24, 25], [2, 3, 4, 5, 6, 7, 8, 9, 10, 11, 12, 13, 14, 15, 16, 17, 18, 19, 20, 21, 22, 23, 24, 25, 26], [2, 3, 4, 5, 6, 7, 8, 9, 10, 11, 12, 13, 14, 15, 16, 17, 18, 19, 20, 21, 22, 23, 24, 25, 26], [2, 3, 4, 5, 6, 7, 8, 9, 10, 11, 12, 13, 14, 15, 16, 17, 18, 19, 20, 21, 22, 23, 24, 25, 26], [2, 3, 4, 5, 6, 7, 8, 9, 10, 11, 12, 13, 14, 15, 16, 17, 18, 19, 20, 21, 22, 23, 24, 25, 26, 27, 28, 29], [2, 3, 4, 5, 6, 7, 8, 9, 10, 11, 12, 13, 14, 15, 16, 17, 18, 19, 20, 21, 22, 23, 24, 25, 26, 27, 28, 29, 30], [2, 3, 4, 5, 6, 7, 8, 9, 10, 11, 12, 13, 14, 15, 16, 17, 18, 19, 20, 21, 22, 23, 24, 25, 26, 27, 28, 29, 30, 31], [2, 3, 4, 5, 6, 7, 8, 9, 10, 11, 12, 13, 14, 15, 16, 17, 18, 19, 20, 21, 22, 23, 24, 25, 26, 27, 28, 29, 30, 31, 32], [0, 1, 2, 3, 4, 5, 6, 7, 8, 9, 10, 11, 12, 13, 14, 15, 16, 17, 18, 19, 20, 21, 22, 23, 24, 25, 26, 27, 28, 29, 30, 31, 32, 33]] (by kernel_rfl) (by kernel_rfl) (by kernel_rfl) (by kernel_rfl) (by kernel_rfl) (by kernel_rfl) (
            .cons (d := some 50) (by kernel_rfl) (does_move (x := .tmp 10) (v := .int .i64 (Sp.angle dx dy e_x e_y)) (by kernel_rfl) (by kernel_rfl)) <|
            .cons (d := some 51) (by kernel_rfl) (does_pure (v := .bool ((Sp.angle dx dy e_x e_y) == 0)) (by kernel_rfl) (fun w => by kernel_rfl) (by kernel_rfl)) <|
            .cons (d := some 52) (by kernel_rfl) (does_load (t := 24) (x := .tmp 7) (k := 1) (off := 0) (b := ⟨[.int .i64 dx, .int .i64 dy], 24, true, 2⟩) (v := .agg #[.int .i64 dx, .int .i64 dy]) (by kernel_rfl) (by kernel_rfl) (by kernel_rfl) (by kernel_rfl)) <|
            .cons (d := some 53) (by kernel_rfl) (does_call0 (x := .func 48) (ars := #[.const (.int .i64 0), .const (.int .i64 0)]) (ats := #[3, 3]) (g := 48) (vs := [.int .i64 0, .int .i64 0]) (v := .agg #[.int .i64 0, .int .i64 0]) (by kernel_rfl) (by kernel_rfl) (by kernel_rfl) (by kernel_rfl) (terrkeep1_at_ok 0 0) (by kernel_rfl) (by kernel_rfl)) <|
            .cons (d := some 54) (by kernel_rfl) (does_bool (b' := true) (does_eql (t := 24) (t2 := 24) (x := .tmp 52) (y := .tmp 53) (xs := #[.int .i64 dx, .int .i64 dy]) (ys := #[.int .i64 0, .int .i64 0]) (b := ((dx == 0) && ((dy == 0) && true))) (by kernel_rfl) (by kernel_rfl) (by kernel_rfl) (by kernel_rfl) (by kernel_rfl) (by kernel_rfl) (by kernel_rfl)) (h4)) <|
            .cons (d := some 55) (by kernel_rfl) (does_move (x := .tmp 54) (v := .bool true) (by kernel_rfl) (by kernel_rfl)) <|
            .cons (d := some 56) (by kernel_rfl) (does_load (t := 24) (x := .tmp 8) (k := 2) (off := 0) (b := ⟨[.int .i64 e_x, .int .i64 e_y], 24, true, 2⟩) (v := .agg #[.int .i64 e_x, .int .i64 e_y]) (by kernel_rfl) (by kernel_rfl) (by kernel_rfl) (by kernel_rfl)) <|
            .cons (d := some 57) (by kernel_rfl) (does_call0 (x := .func 48) (ars := #[.const (.int .i64 0), .const (.int .i64 0)]) (ats := #[3, 3]) (g := 48) (vs := [.int .i64 0, .int .i64 0]) (v := .agg #[.int .i64 0, .int .i64 0]) (by kernel_rfl) (by kernel_rfl) (by kernel_rfl) (by kernel_rfl) (terrkeep1_at_ok 0 0) (by kernel_rfl) (by kernel_rfl)) <|
            .cons (d := some 58) (by kernel_rfl) (does_bool (b' := true) (does_eql (t := 24) (t2 := 24) (x := .tmp 56) (y := .tmp 57) (xs := #[.int .i64 e_x, .int .i64 e_y]) (ys := #[.int .i64 0, .int .i64 0]) (b := ((e_x == 0) && ((e_y == 0) && true))) (by kernel_rfl) (by kernel_rfl) (by kernel_rfl) (by kernel_rfl) (by kernel_rfl) (by kernel_rfl) (by kernel_rfl)) (h5)) <|
            .cons (d := some 59) (by kernel_rfl) (does_pick (c := .tmp 55) (x := .tmp 58) (y := .const (.bool false)) (b := true) (v := .bool true) (by kernel_rfl) (by kernel_rfl) (by kernel_rfl)) <|
            .cons (d := some 60) (by kernel_rfl) (does_move (x := .tmp 59) (v := .bool true) (by kernel_rfl) (by kernel_rfl)) <|
            .cons (d := some 61) (by kernel_rfl) (does_skipB (by kernel_rfl)) <|
            .cons (d := some 62) (by kernel_rfl) (does_skipB (by kernel_rfl)) <|
            .cons (d := some 63) (by kernel_rfl) (does_skipB (by kernel_rfl)) <|
            .cons (d := some 64) (by kernel_rfl) (does_skipB (by kernel_rfl)) <|
            .cons (d := some 65) (by kernel_rfl) (does_skipB (by kernel_rfl)) <|
            .cons (d := some 66) (by kernel_rfl) (does_skipB (by kernel_rfl)) <|
            .cons (d := some 67) (by kernel_rfl) (does_skipB (by kernel_rfl)) <|
            .cons (d := some 68) (by kernel_rfl) (does_skipB (by kernel_rfl)) <|
            .cons (d := some 69) (by kernel_rfl) (does_skipB (by kernel_rfl)) <|
            .cons (d := some 70) (by kernel_rfl) (does_skipB (by kernel_rfl)) <|
            .cons (d := some 71) (by kernel_rfl) (does_skipB (by kernel_rfl)) <|
            .cons (d := some 72) (by kernel_rfl) (does_skipB (by kernel_rfl)) <|
            .cons (d := some 73) (by kernel_rfl) (does_skipB (by kernel_rfl)) <|
            .cons (d := some 74) (by kernel_rfl) (does_skipB (by kernel_rfl)) <|
            .cons (d := some 75) (by kernel_rfl) (does_skipB (by kernel_rfl)) <|
            .cons (d := some 76) (by kernel_rfl) (does_skipB (by kernel_rfl)) <|
            .cons (d := some 77) (by kernel_rfl) (does_skipB (by kernel_rfl)) <|
            .cons (d := some 78) (by kernel_rfl) (does_skipB (by kernel_rfl)) <|
            .cons (d := some 79) (by kernel_rfl) (does_skipB (by kernel_rfl)) <|
            .cons (d := some 80) (by kernel_rfl) (does_skipB (by kernel_rfl)) <|
            .cons (d := some 81) (by kernel_rfl) (does_skipB (by kernel_rfl)) <|
            .cons (d := some 82) (by kernel_rfl) (does_skipB (by kernel_rfl)) <|
            .cons (d := some 83) (by kernel_rfl) (does_pick (c := .tmp 60) (x := .const (.bool true)) (y := .tmp 82) (b := true) (v := .bool true) (by kernel_rfl) (by kernel_rfl) (by kernel_rfl)) <|
            .cons (d := some 84) (by kernel_rfl) (does_bool (b' := !((Sp.angle dx dy e_x e_y) == 0)) (does_pure (v := .bool (!(((Sp.angle dx dy e_x e_y) == 0) == true))) (by kernel_rfl) (fun w => by kernel_rfl) (by kernel_rfl)) (bb3 _)) <|
            .nil _ _) ?_
        refine aw_weak (weak_b (T := [(6, .bool false), (7, .pointer (some ⟨1, 0, none⟩)), (8, .pointer (some ⟨2, 0, none⟩)), (9, .pointer (some ⟨3, 0, none⟩)), (10, .int .i64 (Sp.angle dx dy e_x e_y)), (18, .bool false), (84, .bool (!((Sp.angle dx dy e_x e_y) == 0)))]) (L := [(1, ⟨[.int .i64 dx, .int .i64 dy], 24, true, 2⟩), (2, ⟨[.int .i64 e_x, .int .i64 e_y], 24, true, 2⟩), (3, ⟨[.int .i64 fx, .int .i64 fy], 24, true, 2⟩)]) (by kernel_rfl) (by kernel_rfl) (by kernel_rfl)) ?_
        refine aw_cond (o := .tmp 84) (b := !((Sp.angle dx dy e_x e_y) == 0)) (x := sub (bodyOf Try.f9) [true, true, true, true, true, false, true, false]) (y := sub (bodyOf Try.f9) [true, true, true, true, true, false, true, true]) (by kernel_rfl) (by kernel_rfl) (fun h16 => ?_) (fun h16 => ?_)
        · have h16p : (¬ (((Sp.angle dx dy e_x e_y) = 0))) := by first | (simpa using h16) | (have h16q := h16; simp at h16q; omega) | (have h16q := bx3 h16; simp at h16q; omega)
          refine aw_plain_seq (r := sub (bodyOf Try.f9) [true, true, true, true, true, false, true, false, false]) (y := sub (bodyOf Try.f9) [true, true, true, true, true, false, true, false, true]) (id := 8) (ops := regOps (sub (bodyOf Try.f9) [true, true, true, true, true, false, true, false, false])) (by kernel_rfl) (by kernel_rfl) (by kernel_rfl) (by kernel_rfl) (
              .cons (d := some 6) (by kernel_rfl) (does_assign (x := .const (.bool false)) (v := .bool false) (by kernel_rfl) (by kernel_rfl)) <|
              .nil _ _) ?_
          refine aw_weak (weak_b (T := [(6, .bool false), (7, .pointer (some ⟨1, 0, none⟩)), (8, .pointer (some ⟨2, 0, none⟩)), (9, .pointer (some ⟨3, 0, none⟩)), (10, .int .i64 (Sp.angle dx dy e_x e_y)), (18, .bool false), (84, .bool (!((Sp.angle dx dy e_x e_y) == 0)))]) (L := [(1, ⟨[.int .i64 dx, .int .i64 dy], 24, true, 2⟩), (2, ⟨[.int .i64 e_x, .int .i64 e_y], 24, true, 2⟩), (3, ⟨[.int .i64 fx, .int .i64 fy], 24, true, 2⟩)]) (by kernel_rfl) (by kernel_rfl) (by kernel_rfl)) ?_
          refine aw_ret (by kernel_rfl) ?_
          refine then_ret ?_
          exact end_ret (vs := [.bool false]) (by kernel_rfl) (show (.bool false : Value) = (.bool true) from (congrArg Value.bool (show false = true from by (first | (exfalso; omega) | (exfalso; omega) | (rw [beq_iff_eq, Int.zero_sub, Int.zero_sub]; exact A4 (by omega)))))) trivial
        · have h16p : ¬ (¬ (((Sp.angle dx dy e_x e_y) = 0))) := by first | (simpa using h16) | (have h16q := h16; simp at h16q; omega) | (have h16q := bx4 h16; simp at h16q; omega)
          refine aw_skip (by kernel_rfl) ?_
          refine then_normal ?_
          refine aw_weak (weak_b (T := [(6, .bool false), (7, .pointer (some ⟨1, 0, none⟩)), (8, .pointer (some ⟨2, 0, none⟩)), (9, .pointer (some ⟨3, 0, none⟩)), (10, .int .i64 (Sp.angle dx dy e_x e_y)), (18, .bool false)]) (L := [(1, ⟨[.int .i64 dx, .int .i64 dy], 24, true, 2⟩), (2, ⟨[.int .i64 e_x, .int .i64 e_y], 24, true, 2⟩), (3, ⟨[.int .i64 fx, .int .i64 fy], 24, true, 2⟩)]) (by kernel_rfl) (by kernel_rfl) (by kernel_rfl)) ?_
          exact K2
      · have h5p : ¬ ((e_x = 0 ∧ e_y = 0)) := by first | (simpa using h5) | (have h5q := h5; simp at h5q; omega) | (have h5q := bx2 h5; simp at h5q; omega)
        refine aw_draws_seq (r := sub (bodyOf Try.f9) [true, true, true, true, true, false, false]) (y := sub (bodyOf Try.f9) [true, true, true, true, true, false, true]) (id := 7) (ops := regOps (sub (bodyOf Try.f9) [true, true, true, true, true, false, false])) [[], [0], [], [], [2, 3], [2, 3, 4], [2, 3, 4, 5], [2, 3, 4, 5], [2, 3, 4, 5, 6, 7], [2, 3, 4, 5, 6, 7, 8], [2, 3, 4, 5, 6, 7, 8, 9], [2, 3, 4, 5, 6, 7, 8, 9, 10], [2, 3, 4, 5, 6, 7, 8, 9, 10], [2, 3, 4, 5, 6, 7, 8, 9, 10, 11, 12], [2, 3, 4, 5, 6, 7, 8, 9, 10, 11, 12, 13], [2, 3, 4, 5, 6, 7, 8, 9, 10, 11, 12, 13, 14], [2, 3, 4, 5, 6, 7, 8, 9, 10, 11, 12, 13, 14], [2, 3, 4, 5, 6, 7, 8, 9, 10, 11, 12, 13, 14, 15, 16], [2, 3, 4, 5, 6, 7, 8, 9, 10, 11, 12, 13, 14, 15, 16, 17], [2, 3, 4, 5, 6, 7, 8, 9, 10, 11, 12, 13, 14, 15, 16, 17, 18], [2, 3, 4, 5, 6, 7, 8, 9, 10, 11, 12, 13, 14, 15, 16, 17, 18, 19], [2, 3, 4, 5, 6, 7, 8, 9, 10, 11, 12, 13, 14, 15, 16, 17, 18, 19], [2, 3, 4, 5, 6, 7, 8, 9, 10, 11, 12, 13, 14, 15, 16, 17, 18, 19], [2, 3, 4, 5, 6, 7, 8, 9, 10, 11, 12, 13, 14, 15, 16, 17, 18, 19, 20, 21, 22], [2, 3, 4, 5, 6, 7, 8, 9, 10, 11, 12, 13, 14, 15, 16, 17, 18, 19, 20, 21, 22, 23], [2, 3, 4, 5, 6, 7, 8, 9, 10, 11, 12, 13, 14, 15, 16, 17, 18, 19, 20, 21, 22, 23, 24], [2, 3, 4, 5, 6, 7, 8, 9, 10, 11, 12, 13, 14, 15, 16, 17, 18, 19, 20, 21, 22, 23, 24, 25], [2, 3, 4, 5, 6, 7, 8, 9, 10, 11, 12, 13, 14, 15, 16, 17, 18, 19, 20, 21, 22, 23, 24, 25, 26], [2, 3, 4, 5, 6, 7, 8, 9, 10, 11, 12, 13, 14, 15, 16, 17, 18, 19, 20, 21, 22, 23, 24, 25, 26], [2, 3, 4, 5, 6, 7, 8, 9, 10, 11, 12, 13, 14, 15, 16, 17, 18, 19, 20, 21, 22, 23, 24, 25, 26], [2, 3, 4, 5, 6, 7, 8, 9, 10, 11, 12, 13, 14, 15, 16, 17, 18, 19, 20, 21, 22, 23, 24, 25, 26, 27, 28, 29], [2, 3, 4, 5, 6, 7, 8, 9, 10, 11, 12, 13, 14, 15, 16, 17, 18, 19, 20, 21, 22, 23, 24, 25, 26, 27, 28, 29, 30], [2, 3, 4, 5, 6, 7, 8, 9, 10, 11, 12, 13, 14, 15, 16, 17, 18, 19, 20, 21, 22, 23, 24, 25, 26, 27, 28, 29, 30, 31], [2, 3, 4, 5, 6, 7, 8, 9, 10, 11, 12, 13, 14, 15, 16, 17, 18, 19, 20, 21, 22, 23, 24, 25, 26, 27, 28, 29, 30, 31, 32], [0, 1, 2, 3, 4, 5, 6, 7, 8, 9, 10, 11, 12, 13, 14, 15, 16, 17, 18, 19, 20, 21, 22, 23, 24, 25, 26, 27, 28, 29, 30, 31, 32, 33]] (by kernel_rfl) (by kernel_rfl) (by kernel_rfl) (by kernel_rfl) (by kernel_rfl) (by kernel_rfl) (
            .cons (d := some 50) (by kernel_rfl) (does_move (x := .tmp 10) (v := .int .i64 (Sp.angle dx dy e_x e_y)) (by kernel_rfl) (by kernel_rfl)) <|
            .cons (d := some 51) (by kernel_rfl) (does_pure (v := .bool ((Sp.angle dx dy e_x e_y) == 0)) (by kernel_rfl) (fun w => by kernel_rfl) (by kernel_rfl)) <|
            .cons (d := some 52) (by kernel_rfl) (does_load (t := 24) (x := .tmp 7) (k := 1) (off := 0) (b := ⟨[.int .i64 dx, .int .i64 dy], 24, true, 2⟩) (v := .agg #[.int .i64 dx, .int .i64 dy]) (by kernel_rfl) (by kernel_rfl) (by kernel_rfl) (by kernel_rfl)) <|
            .cons (d := some 53) (by kernel_rfl) (does_call0 (x := .func 48) (ars := #[.const (.int .i64 0), .const (.int .i64 0)]) (ats := #[3, 3]) (g := 48) (vs := [.int .i64 0, .int .i64 0]) (v := .agg #[.int .i64 0, .int .i64 0]) (by kernel_rfl) (by kernel_rfl) (by kernel_rfl) (by kernel_rfl) (terrkeep1_at_ok 0 0) (by kernel_rfl) (by kernel_rfl)) <|
            .cons (d := some 54) (by kernel_rfl) (does_bool (b' := true) (does_eql (t := 24) (t2 := 24) (x := .tmp 52) (y := .tmp 53) (xs := #[.int .i64 dx, .int .i64 dy]) (ys := #[.int .i64 0, .int .i64 0]) (b := ((dx == 0) && ((dy == 0) && true))) (by kernel_rfl) (by kernel_rfl) (by kernel_rfl) (by kernel_rfl) (by kernel_rfl) (by kernel_rfl) (by kernel_rfl)) (h4)) <|
            .cons (d := some 55) (by kernel_rfl) (does_move (x := .tmp 54) (v := .bool true) (by kernel_rfl) (by kernel_rfl)) <|
            .cons (d := some 56) (by kernel_rfl) (does_load (t := 24) (x := .tmp 8) (k := 2) (off := 0) (b := ⟨[.int .i64 e_x, .int .i64 e_y], 24, true, 2⟩) (v := .agg #[.int .i64 e_x, .int .i64 e_y]) (by kernel_rfl) (by kernel_rfl) (by kernel_rfl) (by kernel_rfl)) <|
            .cons (d := some 57) (by kernel_rfl) (does_call0 (x := .func 48) (ars := #[.const (.int .i64 0), .const (.int .i64 0)]) (ats := #[3, 3]) (g := 48) (vs := [.int .i64 0, .int .i64 0]) (v := .agg #[.int .i64 0, .int .i64 0]) (by kernel_rfl) (by kernel_rfl) (by kernel_rfl) (by kernel_rfl) (terrkeep1_at_ok 0 0) (by kernel_rfl) (by kernel_rfl)) <|
            .cons (d := some 58) (by kernel_rfl) (does_bool (b' := false) (does_eql (t := 24) (t2 := 24) (x := .tmp 56) (y := .tmp 57) (xs := #[.int .i64 e_x, .int .i64 e_y]) (ys := #[.int .i64 0, .int .i64 0]) (b := ((e_x == 0) && ((e_y == 0) && true))) (by kernel_rfl) (by kernel_rfl) (by kernel_rfl) (by kernel_rfl) (by kernel_rfl) (by kernel_rfl) (by kernel_rfl)) (h5)) <|
            .cons (d := some 59) (by kernel_rfl) (does_pick (c := .tmp 55) (x := .tmp 58) (y := .const (.bool false)) (b := true) (v := .bool false) (by kernel_rfl) (by kernel_rfl) (by kernel_rfl)) <|
            .cons (d := some 60) (by kernel_rfl) (does_move (x := .tmp 59) (v := .bool false) (by kernel_rfl) (by kernel_rfl)) <|
            .cons (d := some 61) (by kernel_rfl) (does_load (t := 24) (x := .tmp 7) (k := 1) (off := 0) (b := ⟨[.int .i64 dx, .int .i64 dy], 24, true, 2⟩) (v := .agg #[.int .i64 dx, .int .i64 dy]) (by kernel_rfl) (by kernel_rfl) (by kernel_rfl) (by kernel_rfl)) <|
            .cons (d := some 62) (by kernel_rfl) (does_call0 (x := .func 48) (ars := #[.const (.int .i64 0), .const (.int .i64 0)]) (ats := #[3, 3]) (g := 48) (vs := [.int .i64 0, .int .i64 0]) (v := .agg #[.int .i64 0, .int .i64 0]) (by kernel_rfl) (by kernel_rfl) (by kernel_rfl) (by kernel_rfl) (terrkeep1_at_ok 0 0) (by kernel_rfl) (by kernel_rfl)) <|
            .cons (d := some 63) (by kernel_rfl) (does_bool (b' := false) (does_neq (t := 24) (t2 := 24) (x := .tmp 61) (y := .tmp 62) (xs := #[.int .i64 dx, .int .i64 dy]) (ys := #[.int .i64 0, .int .i64 0]) (b := ((dx == 0) && ((dy == 0) && true))) (by kernel_rfl) (by kernel_rfl) (by kernel_rfl) (by kernel_rfl) (by kernel_rfl) (by kernel_rfl) (by kernel_rfl)) (not_t h4)) <|
            .cons (d := some 64) (by kernel_rfl) (does_move (x := .tmp 63) (v := .bool false) (by kernel_rfl) (by kernel_rfl)) <|
            .cons (d := some 65) (by kernel_rfl) (does_skipB (by kernel_rfl)) <|
            .cons (d := some 66) (by kernel_rfl) (does_skipB (by kernel_rfl)) <|
            .cons (d := some 67) (by kernel_rfl) (does_skipB (by kernel_rfl)) <|
            .cons (d := some 68) (by kernel_rfl) (does_pick (c := .tmp 64) (x := .tmp 67) (y := .const (.bool false)) (b := false) (v := .bool false) (by kernel_rfl) (by kernel_rfl) (by kernel_rfl)) <|
            .cons (d := some 69) (by kernel_rfl) (does_move (x := .tmp 68) (v := .bool false) (by kernel_rfl) (by kernel_rfl)) <|
            .cons (d := some 70) (by kernel_rfl) (does_skipB (by kernel_rfl)) <|
            .cons (d := some 71) (by kernel_rfl) (does_skipB (by kernel_rfl)) <|
            .cons (d := some 72) (by kernel_rfl) (does_skipB (by kernel_rfl)) <|
            .cons (d := some 73) (by kernel_rfl) (does_skipB (by kernel_rfl)) <|
            .cons (d := some 74) (by kernel_rfl) (does_skipB (by kernel_rfl)) <|
            .cons (d := some 75) (by kernel_rfl) (does_pick (c := .tmp 69) (x := .tmp 74) (y := .const (.bool false)) (b := false) (v := .bool false) (by kernel_rfl) (by kernel_rfl) (by kernel_rfl)) <|
            .cons (d := some 76) (by kernel_rfl) (does_move (x := .tmp 75) (v := .bool false) (by kernel_rfl) (by kernel_rfl)) <|
            .cons (d := some 77) (by kernel_rfl) (does_skipB (by kernel_rfl)) <|
            .cons (d := some 78) (by kernel_rfl) (does_skipB (by kernel_rfl)) <|
            .cons (d := some 79) (by kernel_rfl) (does_skipB (by kernel_rfl)) <|
            .cons (d := some 80) (by kernel_rfl) (does_skipB (by kernel_rfl)) <|
            .cons (d := some 81) (by kernel_rfl) (does_skipB (by kernel_rfl)) <|
            .cons (d := some 82) (by kernel_rfl) (does_pick (c := .tmp 76) (x := .tmp 81) (y := .const (.bool false)) (b := false) (v := .bool false) (by kernel_rfl) (by kernel_rfl) (by kernel_rfl)) <|
            .cons (d := some 83) (by kernel_rfl) (does_pick (c := .tmp 60) (x := .const (.bool true)) (y := .tmp 82) (b := false) (v := .bool false) (by kernel_rfl) (by kernel_rfl) (by kernel_rfl)) <|
            .cons (d := some 84) (by kernel_rfl) (does_bool (b' := (Sp.angle dx dy e_x e_y) == 0) (does_pure (v := .bool (!(((Sp.angle dx dy e_x e_y) == 0) == false))) (by kernel_rfl) (fun w => by kernel_rfl) (by kernel_rfl)) (bb4 _)) <|
            .nil _ _) ?_
        refine aw_weak (weak_b (T := [(6, .bool false), (7, .pointer (some ⟨1, 0, none⟩)), (8, .pointer (some ⟨2, 0, none⟩)), (9, .pointer (some ⟨3, 0, none⟩)), (10, .int .i64 (Sp.angle dx dy e_x e_y)), (18, .bool false), (84, .bool ((Sp.angle dx dy e_x e_y) == 0))]) (L := [(1, ⟨[.int .i64 dx, .int .i64 dy], 24, true, 2⟩), (2, ⟨[.int .i64 e_x, .int .i64 e_y], 24, true, 2⟩), (3, ⟨[.int .i64 fx, .int .i64 fy], 24, true, 2⟩)]) (by kernel_rfl) (by kernel_rfl) (by kernel_rfl)) ?_
        refine aw_cond (o := .tmp 84) (b := (Sp.angle dx dy e_x e_y) == 0) (x := sub (bodyOf Try.f9) [true, true, true, true, true, false, true, false]) (y := sub (bodyOf Try.f9) [true, true, true, true, true, false, true, true]) (by kernel_rfl) (by kernel_rfl) (fun h17 => ?_) (fun h17 => ?_)
        · have h17p : (((Sp.angle dx dy e_x e_y) = 0)) := by first | (simpa using h17) | (have h17q := h17; simp at h17q; omega) | (have h17q := bx1 h17; simp at h17q; omega)
          refine aw_plain_seq (r := sub (bodyOf Try.f9) [true, true, true, true, true, false, true, false, false]) (y := sub (bodyOf Try.f9) [true, true, true, true, true, false, true, false, true]) (id := 8) (ops := regOps (sub (bodyOf Try.f9) [true, true, true, true, true, false, true, false, false])) (by kernel_rfl) (by kernel_rfl) (by kernel_rfl) (by kernel_rfl) (
              .cons (d := some 6) (by kernel_rfl) (does_assign (x := .const (.bool false)) (v := .bool false) (by kernel_rfl) (by kernel_rfl)) <|
              .nil _ _) ?_
          refine aw_weak (weak_b (T := [(6, .bool false), (7, .pointer (some ⟨1, 0, none⟩)), (8, .pointer (some ⟨2, 0, none⟩)), (9, .pointer (some ⟨3, 0, none⟩)), (10, .int .i64 (Sp.angle dx dy e_x e_y)), (18, .bool false), (84, .bool ((Sp.angle dx dy e_x e_y) == 0))]) (L := [(1, ⟨[.int .i64 dx, .int .i64 dy], 24, true, 2⟩), (2, ⟨[.int .i64 e_x, .int .i64 e_y], 24, true, 2⟩), (3, ⟨[.int .i64 fx, .int .i64 fy], 24, true, 2⟩)]) (by kernel_rfl) (by kernel_rfl) (by kernel_rfl)) ?_
          refine aw_ret (by kernel_rfl) ?_
          refine then_ret ?_
          exact end_ret (vs := [.bool false]) (by kernel_rfl) (show (.bool false : Value) = (.bool true) from (congrArg Value.bool (show false = true from by (first | (exfalso; omega) | (exfalso; omega) | (rw [beq_iff_eq, Int.zero_sub, Int.zero_sub]; exact A4 (by omega)))))) trivial
        · have h17p : ¬ (((Sp.angle dx dy e_x e_y) = 0)) := by first | (simpa using h17) | (have h17q := h17; simp at h17q; omega) | (have h17q := bx2 h17; simp at h17q; omega)
          refine aw_skip (by kernel_rfl) ?_
          refine then_normal ?_
          refine aw_weak (weak_b (T := [(6, .bool false), (7, .pointer (some ⟨1, 0, none⟩)), (8, .pointer (some ⟨2, 0, none⟩)), (9, .pointer (some ⟨3, 0, none⟩)), (10, .int .i64 (Sp.angle dx dy e_x e_y)), (18, .bool false)]) (L := [(1, ⟨[.int .i64 dx, .int .i64 dy], 24, true, 2⟩), (2, ⟨[.int .i64 e_x, .int .i64 e_y], 24, true, 2⟩), (3, ⟨[.int .i64 fx, .int .i64 fy], 24, true, 2⟩)]) (by kernel_rfl) (by kernel_rfl) (by kernel_rfl)) ?_
          exact K2
    · have h4p : ¬ ((dx = 0 ∧ dy = 0)) := by first | (simpa using h4) | (have h4q := h4; simp at h4q; omega) | (have h4q := bx2 h4; simp at h4q; omega)
      rcases Bool.eq_false_or_eq_true (!((e_x == 0) && ((e_y == 0) && true))) with h6 | h6
      · have h6p : (¬ ((e_x = 0 ∧ e_y = 0))) := by first | (simpa using h6) | (have h6q := h6; simp at h6q; omega) | (have h6q := bx3 h6; simp at h6q; omega)
        rcases Bool.eq_false_or_eq_true ((Sp.crs 0 0 dx dy e_x e_y) == 0) with h7 | h7
        · have h7p : (((Sp.crs 0 0 dx dy e_x e_y) = 0)) := by first | (simpa using h7) | (have h7q := h7; simp at h7q; omega) | (have h7q := bx1 h7; simp at h7q; omega)
          refine aw_draws_seq (r := sub (bodyOf Try.f9) [true, true, true, true, true, false, false]) (y := sub (bodyOf Try.f9) [true, true, true, true, true, false, true]) (id := 7) (ops := regOps (sub (bodyOf Try.f9) [true, true, true, true, true, false, false])) [[], [0], [], [], [2, 3], [2, 3, 4], [2, 3, 4, 5], [2, 3, 4, 5], [2, 3, 4, 5, 6, 7], [2, 3, 4, 5, 6, 7, 8], [2, 3, 4, 5, 6, 7, 8, 9], [2, 3, 4, 5, 6, 7, 8, 9, 10], [2, 3, 4, 5, 6, 7, 8, 9, 10], [2, 3, 4, 5, 6, 7, 8, 9, 10, 11, 12], [2, 3, 4, 5, 6, 7, 8, 9, 10, 11, 12, 13], [2, 3, 4, 5, 6, 7, 8, 9, 10, 11, 12, 13, 14], [2, 3, 4, 5, 6, 7, 8, 9, 10, 11, 12, 13, 14], [2, 3, 4, 5, 6, 7, 8, 9, 10, 11, 12, 13, 14, 15, 16], [2, 3, 4, 5, 6, 7, 8, 9, 10, 11, 12, 13, 14, 15, 16, 17], [2, 3, 4, 5, 6, 7, 8, 9, 10, 11, 12, 13, 14, 15, 16, 17, 18], [2, 3, 4, 5, 6, 7, 8, 9, 10, 11, 12, 13, 14, 15, 16, 17, 18, 19], [2, 3, 4, 5, 6, 7, 8, 9, 10, 11, 12, 13, 14, 15, 16, 17, 18, 19], [2, 3, 4, 5, 6, 7, 8, 9, 10, 11, 12, 13, 14, 15, 16, 17, 18, 19], [2, 3, 4, 5, 6, 7, 8, 9, 10, 11, 12, 13, 14, 15, 16, 17, 18, 19, 20, 21, 22], [2, 3, 4, 5, 6, 7, 8, 9, 10, 11, 12, 13, 14, 15, 16, 17, 18, 19, 20, 21, 22, 23], [2, 3, 4, 5, 6, 7, 8, 9, 10, 11, 12, 13, 14, 15, 16, 17, 18, 19, 20, 21, 22, 23, 24], [2, 3, 4, 5, 6, 7, 8, 9, 10, 11, 12, 13, 14, 15, 16, 17, 18, 19, 20, 21, 22, 23, 24, 25], [2, 3, 4, 5, 6, 7, 8, 9, 10, 11, 12, 13, 14, 15, 16, 17, 18, 19, 20, 21, 22, 23, 24, 25, 26], [2, 3, 4, 5, 6, 7, 8, 9, 10, 11, 12, 13, 14, 15, 16, 17, 18, 19, 20, 21, 22, 23, 24, 25, 26], [2, 3, 4, 5, 6, 7, 8, 9, 10, 11, 12, 13, 14, 15, 16, 17, 18, 19, 20, 21, 22, 23, 24, 25, 26], [2, 3, 4, 5, 6, 7, 8, 9, 10, 11, 12, 13, 14, 15, 16, 17, 18, 19, 20, 21, 22, 23, 24, 25, 26, 27, 28, 29], [2, 3, 4, 5, 6, 7, 8, 9, 10, 11, 12, 13, 14, 15, 16, 17, 18, 19, 20, 21, 22, 23, 24, 25, 26, 27, 28, 29, 30], [2, 3, 4, 5, 6, 7, 8, 9, 10, 11, 12, 13, 14, 15, 16, 17, 18, 19, 20, 21, 22, 23, 24, 25, 26, 27, 28, 29, 30, 31], [2, 3, 4, 5, 6, 7, 8, 9, 10, 11, 12, 13, 14, 15, 16, 17, 18, 19, 20, 21, 22, 23, 24, 25, 26, 27, 28, 29, 30, 31, 32], [0, 1, 2, 3, 4, 5, 6, 7, 8, 9, 10, 11, 12, 13, 14, 15, 16, 17, 18, 19, 20, 21, 22, 23, 24, 25, 26, 27, 28, 29, 30, 31, 32, 33]] (by kernel_rfl) (by kernel_rfl) (by kernel_rfl) (by kernel_rfl) (by kernel_rfl) (by kernel_rfl) (
              .cons (d := some 50) (by kernel_rfl) (does_move (x := .tmp 10) (v := .int .i64 (Sp.angle dx dy e_x e_y)) (by kernel_rfl) (by kernel_rfl)) <|
              .cons (d := some 51) (by kernel_rfl) (does_pure (v := .bool ((Sp.angle dx dy e_x e_y) == 0)) (by kernel_rfl) (fun w => by kernel_rfl) (by kernel_rfl)) <|
              .cons (d := some 52) (by kernel_rfl) (does_load (t := 24) (x := .tmp 7) (k := 1) (off := 0) (b := ⟨[.int .i64 dx, .int .i64 dy], 24, true, 2⟩) (v := .agg #[.int .i64 dx, .int .i64 dy]) (by kernel_rfl) (by kernel_rfl) (by kernel_rfl) (by kernel_rfl)) <|
              .cons (d := some 53) (by kernel_rfl) (does_call0 (x := .func 48) (ars := #[.const (.int .i64 0), .const (.int .i64 0)]) (ats := #[3, 3]) (g := 48) (vs := [.int .i64 0, .int .i64 0]) (v := .agg #[.int .i64 0, .int .i64 0]) (by kernel_rfl) (by kernel_rfl) (by kernel_rfl) (by kernel_rfl) (terrkeep1_at_ok 0 0) (by kernel_rfl) (by kernel_rfl)) <|
              .cons (d := some 54) (by kernel_rfl) (does_bool (b' := false) (does_eql (t := 24) (t2 := 24) (x := .tmp 52) (y := .tmp 53) (xs := #[.int .i64 dx, .int .i64 dy]) (ys := #[.int .i64 0, .int .i64 0]) (b := ((dx == 0) && ((dy == 0) && true))) (by kernel_rfl) (by kernel_rfl) (by kernel_rfl) (by kernel_rfl) (by kernel_rfl) (by kernel_rfl) (by kernel_rfl)) (h4)) <|
              .cons (d := some 55) (by kernel_rfl) (does_move (x := .tmp 54) (v := .bool false) (by kernel_rfl) (by kernel_rfl)) <|
              .cons (d := some 56) (by kernel_rfl) (does_skipB (by kernel_rfl)) <|
              .cons (d := some 57) (by kernel_rfl) (does_skipB (by kernel_rfl)) <|
              .cons (d := some 58) (by kernel_rfl) (does_skipB (by kernel_rfl)) <|
              .cons (d := some 59) (by kernel_rfl) (does_pick (c := .tmp 55) (x := .tmp 58) (y := .const (.bool false)) (b := false) (v := .bool false) (by kernel_rfl) (by kernel_rfl) (by kernel_rfl)) <|
              .cons (d := some 60) (by kernel_rfl) (does_move (x := .tmp 59) (v := .bool false) (by kernel_rfl) (by kernel_rfl)) <|
              .cons (d := some 61) (by kernel_rfl) (does_load (t := 24) (x := .tmp 7) (k := 1) (off := 0) (b := ⟨[.int .i64 dx, .int .i64 dy], 24, true, 2⟩) (v := .agg #[.int .i64 dx, .int .i64 dy]) (by kernel_rfl) (by kernel_rfl) (by kernel_rfl) (by kernel_rfl)) <|
              .cons (d := some 62) (by kernel_rfl) (does_call0 (x := .func 48) (ars := #[.const (.int .i64 0), .const (.int .i64 0)]) (ats := #[3, 3]) (g := 48) (vs := [.int .i64 0, .int .i64 0]) (v := .agg #[.int .i64 0, .int .i64 0]) (by kernel_rfl) (by kernel_rfl) (by kernel_rfl) (by kernel_rfl) (terrkeep1_at_ok 0 0) (by kernel_rfl) (by kernel_rfl)) <|
              .cons (d := some 63) (by kernel_rfl) (does_bool (b' := true) (does_neq (t := 24) (t2 := 24) (x := .tmp 61) (y := .tmp 62) (xs := #[.int .i64 dx, .int .i64 dy]) (ys := #[.int .i64 0, .int .i64 0]) (b := ((dx == 0) && ((dy == 0) && true))) (by kernel_rfl) (by kernel_rfl) (by kernel_rfl) (by kernel_rfl) (by kernel_rfl) (by kernel_rfl) (by kernel_rfl)) (not_f h4)) <|
              .cons (d := some 64) (by kernel_rfl) (does_move (x := .tmp 63) (v := .bool true) (by kernel_rfl) (by kernel_rfl)) <|
              .cons (d := some 65) (by kernel_rfl) (does_load (t := 24) (x := .tmp 8) (k := 2) (off := 0) (b := ⟨[.int .i64 e_x, .int .i64 e_y], 24, true, 2⟩) (v := .agg #[.int .i64 e_x, .int .i64 e_y]) (by kernel_rfl) (by kernel_rfl) (by kernel_rfl) (by kernel_rfl)) <|
              .cons (d := some 66) (by kernel_rfl) (does_call0 (x := .func 48) (ars := #[.const (.int .i64 0), .const (.int .i64 0)]) (ats := #[3, 3]) (g := 48) (vs := [.int .i64 0, .int .i64 0]) (v := .agg #[.int .i64 0, .int .i64 0]) (by kernel_rfl) (by kernel_rfl) (by kernel_rfl) (by kernel_rfl) (terrkeep1_at_ok 0 0) (by kernel_rfl) (by kernel_rfl)) <|
              .cons (d := some 67) (by kernel_rfl) (does_bool (b' := true) (does_neq (t := 24) (t2 := 24) (x := .tmp 65) (y := .tmp 66) (xs := #[.int .i64 e_x, .int .i64 e_y]) (ys := #[.int .i64 0, .int .i64 0]) (b := ((e_x == 0) && ((e_y == 0) && true))) (by kernel_rfl) (by kernel_rfl) (by kernel_rfl) (by kernel_rfl) (by kernel_rfl) (by kernel_rfl) (by kernel_rfl)) (h6)) <|
              .cons (d := some 68) (by kernel_rfl) (does_pick (c := .tmp 64) (x := .tmp 67) (y := .const (.bool false)) (b := true) (v := .bool true) (by kernel_rfl) (by kernel_rfl) (by kernel_rfl)) <|
              .cons (d := some 69) (by kernel_rfl) (does_move (x := .tmp 68) (v := .bool true) (by kernel_rfl) (by kernel_rfl)) <|
              .cons (d := some 70) (by kernel_rfl) (does_call0 (x := .func 48) (ars := #[.const (.int .i64 0), .const (.int .i64 0)]) (ats := #[3, 3]) (g := 48) (vs := [.int .i64 0, .int .i64 0]) (v := .agg #[.int .i64 0, .int .i64 0]) (by kernel_rfl) (by kernel_rfl) (by kernel_rfl) (by kernel_rfl) (terrkeep1_at_ok 0 0) (by kernel_rfl) (by kernel_rfl)) <|
              .cons (d := some 71) (by kernel_rfl) (does_load (t := 24) (x := .tmp 7) (k := 1) (off := 0) (b := ⟨[.int .i64 dx, .int .i64 dy], 24, true, 2⟩) (v := .agg #[.int .i64 dx, .int .i64 dy]) (by kernel_rfl) (by kernel_rfl) (by kernel_rfl) (by kernel_rfl)) <|
              .cons (d := some 72) (by kernel_rfl) (does_load (t := 24) (x := .tmp 8) (k := 2) (off := 0) (b := ⟨[.int .i64 e_x, .int .i64 e_y], 24, true, 2⟩) (v := .agg #[.int .i64 e_x, .int .i64 e_y]) (by kernel_rfl) (by kernel_rfl) (by kernel_rfl) (by kernel_rfl)) <|
              .cons (d := some 73) (by kernel_rfl) (does_call0 (x := .func 35) (ars := #[.tmp 70, .tmp 71, .tmp 72]) (ats := #[24, 24, 24]) (g := 35) (vs := [.agg #[.int .i64 0, .int .i64 0], .agg #[.int .i64 dx, .int .i64 dy], .agg #[.int .i64 e_x, .int .i64 e_y]]) (v := .int .i64 (Sp.crs 0 0 dx dy e_x e_y)) (by kernel_rfl) (by kernel_rfl) (by kernel_rfl) (by kernel_rfl) (cross_in 0 0 dx dy e_x e_y (by omega) (by omega) (by omega) (by omega) (by omega) (by omega) (by omega) (by omega) (by omega) (by omega) (by omega) (by omega)) (by kernel_rfl) (by kernel_rfl)) <|
              .cons (d := some 74) (by kernel_rfl) (does_bool (b' := true) (does_pure (v := .bool ((Sp.crs 0 0 dx dy e_x e_y) == 0)) (by kernel_rfl) (fun w => by kernel_rfl) (by kernel_rfl)) (h7)) <|
              .cons (d := some 75) (by kernel_rfl) (does_pick (c := .tmp 69) (x := .tmp 74) (y := .const (.bool false)) (b := true) (v := .bool true) (by kernel_rfl) (by kernel_rfl) (by kernel_rfl)) <|
              .cons (d := some 76) (by kernel_rfl) (does_move (x := .tmp 75) (v := .bool true) (by kernel_rfl) (by kernel_rfl)) <|
              .cons (d := some 77) (by kernel_rfl) (does_call0 (x := .func 48) (ars := #[.const (.int .i64 0), .const (.int .i64 0)]) (ats := #[3, 3]) (g := 48) (vs := [.int .i64 0, .int .i64 0]) (v := .agg #[.int .i64 0, .int .i64 0]) (by kernel_rfl) (by kernel_rfl) (by kernel_rfl) (by kernel_rfl) (terrkeep1_at_ok 0 0) (by kernel_rfl) (by kernel_rfl)) <|
              .cons (d := some 78) (by kernel_rfl) (does_load (t := 24) (x := .tmp 7) (k := 1) (off := 0) (b := ⟨[.int .i64 dx, .int .i64 dy], 24, true, 2⟩) (v := .agg #[.int .i64 dx, .int .i64 dy]) (by kernel_rfl) (by kernel_rfl) (by kernel_rfl) (by kernel_rfl)) <|
              .cons (d := some 79) (by kernel_rfl) (does_load (t := 24) (x := .tmp 8) (k := 2) (off := 0) (b := ⟨[.int .i64 e_x, .int .i64 e_y], 24, true, 2⟩) (v := .agg #[.int .i64 e_x, .int .i64 e_y]) (by kernel_rfl) (by kernel_rfl) (by kernel_rfl) (by kernel_rfl)) <|
              .cons (d := some 80) (by kernel_rfl) (does_call0 (x := .func 37) (ars := #[.tmp 77, .tmp 78, .tmp 79]) (ats := #[24, 24, 24]) (g := 37) (vs := [.agg #[.int .i64 0, .int .i64 0], .agg #[.int .i64 dx, .int .i64 dy], .agg #[.int .i64 e_x, .int .i64 e_y]]) (v := .int .i64 (Sp.dot 0 0 dx dy e_x e_y)) (by kernel_rfl) (by kernel_rfl) (by kernel_rfl) (by kernel_rfl) (dot_in 0 0 dx dy e_x e_y (by omega) (by omega) (by omega) (by omega) (by omega) (by omega) (by omega) (by omega) (by omega) (by omega) (by omega) (by omega)) (by kernel_rfl) (by kernel_rfl)) <|
              .cons (d := some 81) (by kernel_rfl) (does_pure (v := .bool (decide ((Sp.dot 0 0 dx dy e_x e_y) > 0))) (by kernel_rfl) (fun w => by kernel_rfl) (by kernel_rfl)) <|
              .cons (d := some 82) (by kernel_rfl) (does_pick (c := .tmp 76) (x := .tmp 81) (y := .const (.bool false)) (b := true) (v := .bool (decide ((Sp.dot 0 0 dx dy e_x e_y) > 0))) (by kernel_rfl) (by kernel_rfl) (by kernel_rfl)) <|
              .cons (d := some 83) (by kernel_rfl) (does_pick (c := .tmp 60) (x := .const (.bool true)) (y := .tmp 82) (b := false) (v := .bool (decide ((Sp.dot 0 0 dx dy e_x e_y) > 0))) (by kernel_rfl) (by kernel_rfl) (by kernel_rfl)) <|
              .cons (d := some 84) (by kernel_rfl) (does_pure (v := .bool (!(((Sp.angle dx dy e_x e_y) == 0) == (decide ((Sp.dot 0 0 dx dy e_x e_y) > 0))))) (by kernel_rfl) (fun w => by kernel_rfl) (by kernel_rfl)) <|
              .nil _ _) ?_
          refine aw_weak (weak_b (T := [(6, .bool false), (7, .pointer (some ⟨1, 0, none⟩)), (8, .pointer (some ⟨2, 0, none⟩)), (9, .pointer (some ⟨3, 0, none⟩)), (10, .int .i64 (Sp.angle dx dy e_x e_y)), (18, .bool false), (84, .bool (!(((Sp.angle dx dy e_x e_y) == 0) == (decide ((Sp.dot 0 0 dx dy e_x e_y) > 0)))))]) (L := [(1, ⟨[.int .i64 dx, .int .i64 dy], 24, true, 2⟩), (2, ⟨[.int .i64 e_x, .int .i64 e_y], 24, true, 2⟩), (3, ⟨[.int .i64 fx, .int .i64 fy], 24, true, 2⟩)]) (by kernel_rfl) (by kernel_rfl) (by kernel_rfl)) ?_
          refine aw_cond (o := .tmp 84) (b := !(((Sp.angle dx dy e_x e_y) == 0) == (decide ((Sp.dot 0 0 dx dy e_x e_y) > 0)))) (x := sub (bodyOf Try.f9) [true, true, true, true, true, false, true, false]) (y := sub (bodyOf Try.f9) [true, true, true, true, true, false, true, true]) (by kernel_rfl) (by kernel_rfl) (fun h18 => ?_) (fun h18 => ?_)
          · have h18p : (¬ (((((Sp.angle dx dy e_x e_y) = 0)) ↔ (((Sp.dot 0 0 dx dy e_x e_y) > 0))))) := by first | (simpa using h18) | (have h18q := h18; simp at h18q; omega) | (have h18q := bx3 h18; simp at h18q; omega)
            refine aw_plain_seq (r := sub (bodyOf Try.f9) [true, true, true, true, true, false, true, false, false]) (y := sub (bodyOf Try.f9) [true, true, true, true, true, false, true, false, true]) (id := 8) (ops := regOps (sub (bodyOf Try.f9) [true, true, true, true, true, false, true, false, false])) (by kernel_rfl) (by kernel_rfl) (by kernel_rfl) (by kernel_rfl) (
                .cons (d := some 6) (by kernel_rfl) (does_assign (x := .const (.bool false)) (v := .bool false) (by kernel_rfl) (by kernel_rfl)) <|
                .nil _ _) ?_
            refine aw_weak (weak_b (T := [(6, .bool false), (7, .pointer (some ⟨1, 0, none⟩)), (8, .pointer (some ⟨2, 0, none⟩)), (9, .pointer (some ⟨3, 0, none⟩)), (10, .int .i64 (Sp.angle dx dy e_x e_y)), (18, .bool false), (84, .bool (!(((Sp.angle dx dy e_x e_y) == 0) == (decide ((Sp.dot 0 0 dx dy e_x e_y) > 0)))))]) (L := [(1, ⟨[.int .i64 dx, .int .i64 dy], 24, true, 2⟩), (2, ⟨[.int .i64 e_x, .int .i64 e_y], 24, true, 2⟩), (3, ⟨[.int .i64 fx, .int .i64 fy], 24, true, 2⟩)]) (by kernel_rfl) (by kernel_rfl) (by kernel_rfl)) ?_
            refine aw_ret (by kernel_rfl) ?_
            refine then_ret ?_
            exact end_ret (vs := [.bool false]) (by kernel_rfl) (show (.bool false : Value) = (.bool true) from (congrArg Value.bool (show false = true from by (first | (exfalso; omega) | (exfalso; omega) | (rw [beq_iff_eq, Int.zero_sub, Int.zero_sub]; exact A4 (by omega)))))) trivial
          · have h18p : ¬ (¬ (((((Sp.angle dx dy e_x e_y) = 0)) ↔ (((Sp.dot 0 0 dx dy e_x e_y) > 0))))) := by first | (simpa using h18) | (have h18q := h18; simp at h18q; omega) | (have h18q := bx4 h18; simp at h18q; omega)
            refine aw_skip (by kernel_rfl) ?_
            refine then_normal ?_
            refine aw_weak (weak_b (T := [(6, .bool false), (7, .pointer (some ⟨1, 0, none⟩)), (8, .pointer (some ⟨2, 0, none⟩)), (9, .pointer (some ⟨3, 0, none⟩)), (10, .int .i64 (Sp.angle dx dy e_x e_y)), (18, .bool false)]) (L := [(1, ⟨[.int .i64 dx, .int .i64 dy], 24, true, 2⟩), (2, ⟨[.int .i64 e_x, .int .i64 e_y], 24, true, 2⟩), (3, ⟨[.int .i64 fx, .int .i64 fy], 24, true, 2⟩)]) (by kernel_rfl) (by kernel_rfl) (by kernel_rfl)) ?_
            exact K2
        · have h7p : ¬ (((Sp.crs 0 0 dx dy e_x e_y) = 0)) := by first | (simpa using h7) | (have h7q := h7; simp at h7q; omega) | (have h7q := bx2 h7; simp at h7q; omega)
          refine aw_draws_seq (r := sub (bodyOf Try.f9) [true, true, true, true, true, false, false]) (y := sub (bodyOf Try.f9) [true, true, true, true, true, false, true]) (id := 7) (ops := regOps (sub (bodyOf Try.f9) [true, true, true, true, true, false, false])) [[], [0], [], [], [2, 3], [2, 3, 4], [2, 3, 4, 5], [2, 3, 4, 5], [2, 3, 4, 5, 6, 7], [2, 3, 4, 5, 6, 7, 8], [2, 3, 4, 5, 6, 7, 8, 9], [2, 3, 4, 5, 6, 7, 8, 9, 10], [2, 3, 4, 5, 6, 7, 8, 9, 10], [2, 3, 4, 5, 6, 7, 8, 9, 10, 11, 12], [2, 3, 4, 5, 6, 7, 8, 9, 10, 11, 12, 13], [2, 3, 4, 5, 6, 7, 8, 9, 10, 11, 12, 13, 14], [2, 3, 4, 5, 6, 7, 8, 9, 10, 11, 12, 13, 14], [2, 3, 4, 5, 6, 7, 8, 9, 10, 11, 12, 13, 14, 15, 16], [2, 3, 4, 5, 6, 7, 8, 9, 10, 11, 12, 13, 14, 15, 16, 17], [2, 3, 4, 5, 6, 7, 8, 9, 10, 11, 12, 13, 14, 15, 16, 17, 18], [2, 3, 4, 5, 6, 7, 8, 9, 10, 11, 12, 13, 14, 15, 16, 17, 18, 19], [2, 3, 4, 5, 6, 7, 8, 9, 10, 11, 12, 13, 14, 15, 16, 17, 18, 19], [2, 3, 4, 5, 6, 7, 8, 9, 10, 11, 12, 13, 14, 15, 16, 17, 18, 19], [2, 3, 4, 5, 6, 7, 8, 9, 10, 11, 12, 13, 14, 15, 16, 17, 18, 19, 20, 21, 22], [2, 3, 4, 5, 6, 7, 8, 9, 10, 11, 12, 13, 14, 15, 16, 17, 18, 19, 20, 21, 22, 23], [2, 3, 4, 5, 6, 7, 8, 9, 10, 11, 12, 13, 14, 15, 16, 17, 18, 19, 20, 21, 22, 23, 24], [2, 3, 4, 5, 6, 7, 8, 9, 10, 11, 12, 13, 14, 15, 16, 17, 18, 19, 20, 21, 22, 23, 24, 25], [2, 3, 4, 5, 6, 7, 8, 9, 10, 11, 12, 13, 14, 15, 16, 17, 18, 19, 20, 21, 22, 23, 24, 25, 26], [2, 3, 4, 5, 6, 7, 8, 9, 10, 11, 12, 13, 14, 15, 16, 17, 18, 19, 20, 21, 22, 23, 24, 25, 26], [2, 3, 4, 5, 6, 7, 8, 9, 10, 11, 12, 13, 14, 15, 16, 17, 18, 19, 20, 21, 22, 23, 24, 25, 26], [2, 3, 4, 5, 6, 7, 8, 9, 10, 11, 12, 13, 14, 15, 16, 17, 18, 19, 20, 21, 22, 23, 24, 25, 26, 27, 28, 29], [2, 3, 4, 5, 6, 7, 8, 9, 10, 11, 12, 13, 14, 15, 16, 17, 18, 19, 20, 21, 22, 23, 24, 25, 26, 27, 28, 29, 30], [2, 3, 4, 5, 6, 7, 8, 9, 10, 11, 12, 13, 14, 15, 16, 17, 18, 19, 20, 21, 22, 23, 24, 25, 26, 27, 28, 29, 30, 31], [2, 3, 4, 5, 6, 7, 8, 9, 10, 11, 12, 13, 14, 15, 16, 17, 18, 19, 20, 21, 22, 23, 24, 25, 26, 27, 28, 29, 30, 31, 32], [0, 1, 2, 3, 4, 5, 6, 7, 8, 9, 10, 11, 12, 13, 14, 15, 16, 17, 18, 19, 20, 21, 22, 23, 24, 25, 26, 27, 28, 29, 30, 31, 32, 33]] (by kernel_rfl) (by kernel_rfl) (by kernel_rfl) (by kernel_rfl) (by kernel_rfl) (by kernel_rfl) (
              .cons (d := some 50) (by kernel_rfl) (does_move (x := .tmp 10) (v := .int .i64 (Sp.angle dx dy e_x e_y)) (by kernel_rfl) (by kernel_rfl)) <|
              .cons (d := some 51) (by kernel_rfl) (does_pure (v := .bool ((Sp.angle dx dy e_x e_y) == 0)) (by kernel_rfl) (fun w => by kernel_rfl) (by kernel_rfl)) <|
              .cons (d := some 52) (by kernel_rfl) (does_load (t := 24) (x := .tmp 7) (k := 1) (off := 0) (b := ⟨[.int .i64 dx, .int .i64 dy], 24, true, 2⟩) (v := .agg #[.int .i64 dx, .int .i64 dy]) (by kernel_rfl) (by kernel_rfl) (by kernel_rfl) (by kernel_rfl)) <|
              .cons (d := some 53) (by kernel_rfl) (does_call0 (x := .func 48) (ars := #[.const (.int .i64 0), .const (.int .i64 0)]) (ats := #[3, 3]) (g := 48) (vs := [.int .i64 0, .int .i64 0]) (v := .agg #[.int .i64 0, .int .i64 0]) (by kernel_rfl) (by kernel_rfl) (by kernel_rfl) (by kernel_rfl) (terrkeep1_at_ok 0 0) (by kernel_rfl) (by kernel_rfl)) <|
              .cons (d := some 54) (by kernel_rfl) (does_bool (b' := false) (does_eql (t := 24) (t2 := 24) (x := .tmp 52) (y := .tmp 53) (xs := #[.int .i64 dx, .int .i64 dy]) (ys := #[.int .i64 0, .int .i64 0]) (b := ((dx == 0) && ((dy == 0) && true))) (by kernel_rfl) (by kernel_rfl) (by kernel_rfl) (by kernel_rfl) (by kernel_rfl) (by kernel_rfl) (by kernel_rfl)) (h4)) <|
              .cons (d := some 55) (by kernel_rfl) (does_move (x := .tmp 54) (v := .bool false) (by kernel_rfl) (by kernel_rfl)) <|
              .cons (d := some 56) (by kernel_rfl) (does_skipB (by kernel_rfl)) <|
              .cons (d := some 57) (by kernel_rfl) (does_skipB (by kernel_rfl)) <|
              .cons (d := some 58) (by kernel_rfl) (does_skipB (by kernel_rfl)) <|
              .cons (d := some 59) (by kernel_rfl) (does_pick (c := .tmp 55) (x := .tmp 58) (y := .const (.bool false)) (b := false) (v := .bool false) (by kernel_rfl) (by kernel_rfl) (by kernel_rfl)) <|
              .cons (d := some 60) (by kernel_rfl) (does_move (x := .tmp 59) (v := .bool false) (by kernel_rfl) (by kernel_rfl)) <|
              .cons (d := some 61) (by kernel_rfl) (does_load (t := 24) (x := .tmp 7) (k := 1) (off := 0) (b := ⟨[.int .i64 dx, .int .i64 dy], 24, true, 2⟩) (v := .agg #[.int .i64 dx, .int .i64 dy]) (by kernel_rfl) (by kernel_rfl) (by kernel_rfl) (by kernel_rfl)) <|
              .cons (d := some 62) (by kernel_rfl) (does_call0 (x := .func 48) (ars := #[.const (.int .i64 0), .const (.int .i64 0)]) (ats := #[3, 3]) (g := 48) (vs := [.int .i64 0, .int .i64 0]) (v := .agg #[.int .i64 0, .int .i64 0]) (by kernel_rfl) (by kernel_rfl) (by kernel_rfl) (by kernel_rfl) (terrkeep1_at_ok 0 0) (by kernel_rfl) (by kernel_rfl)) <|
              .cons (d := some 63) (by kernel_rfl) (does_bool (b' := true) (does_neq (t := 24) (t2 := 24) (x := .tmp 61) (y := .tmp 62) (xs := #[.int .i64 dx, .int .i64 dy]) (ys := #[.int .i64 0, .int .i64 0]) (b := ((dx == 0) && ((dy == 0) && true))) (by kernel_rfl) (by kernel_rfl) (by kernel_rfl) (by kernel_rfl) (by kernel_rfl) (by kernel_rfl) (by kernel_rfl)) (not_f h4)) <|
              .cons (d := some 64) (by kernel_rfl) (does_move (x := .tmp 63) (v := .bool true) (by kernel_rfl) (by kernel_rfl)) <|
              .cons (d := some 65) (by kernel_rfl) (does_load (t := 24) (x := .tmp 8) (k := 2) (off := 0) (b := ⟨[.int .i64 e_x, .int .i64 e_y], 24, true, 2⟩) (v := .agg #[.int .i64 e_x, .int .i64 e_y]) (by kernel_rfl) (by kernel_rfl) (by kernel_rfl) (by kernel_rfl)) <|
              .cons (d := some 66) (by kernel_rfl) (does_call0 (x := .func 48) (ars := #[.const (.int .i64 0), .const (.int .i64 0)]) (ats := #[3, 3]) (g := 48) (vs := [.int .i64 0, .int .i64 0]) (v := .agg #[.int .i64 0, .int .i64 0]) (by kernel_rfl) (by kernel_rfl) (by kernel_rfl) (by kernel_rfl) (terrkeep1_at_ok 0 0) (by kernel_rfl) (by kernel_rfl)) <|
              .cons (d := some 67) (by kernel_rfl) (does_bool (b' := true) (does_neq (t := 24) (t2 := 24) (x := .tmp 65) (y := .tmp 66) (xs := #[.int .i64 e_x, .int .i64 e_y]) (ys := #[.int .i64 0, .int .i64 0]) (b := ((e_x == 0) && ((e_y == 0) && true))) (by kernel_rfl) (by kernel_rfl) (by kernel_rfl) (by kernel_rfl) (by kernel_rfl) (by kernel_rfl) (by kernel_rfl)) (h6)) <|
              .cons (d := some 68) (by kernel_rfl) (does_pick (c := .tmp 64) (x := .tmp 67) (y := .const (.bool false)) (b := true) (v := .bool true) (by kernel_rfl) (by kernel_rfl) (by kernel_rfl)) <|
              .cons (d := some 69) (by kernel_rfl) (does_move (x := .tmp 68) (v := .bool true) (by kernel_rfl) (by kernel_rfl)) <|
              .cons (d := some 70) (by kernel_rfl) (does_call0 (x := .func 48) (ars := #[.const (.int .i64 0), .const (.int .i64 0)]) (ats := #[3, 3]) (g := 48) (vs := [.int .i64 0, .int .i64 0]) (v := .agg #[.int .i64 0, .int .i64 0]) (by kernel_rfl) (by kernel_rfl) (by kernel_rfl) (by kernel_rfl) (terrkeep1_at_ok 0 0) (by kernel_rfl) (by kernel_rfl)) <|
              .cons (d := some 71) (by kernel_rfl) (does_load (t := 24) (x := .tmp 7) (k := 1) (off := 0) (b := ⟨[.int .i64 dx, .int .i64 dy], 24, true, 2⟩) (v := .agg #[.int .i64 dx, .int .i64 dy]) (by kernel_rfl) (by kernel_rfl) (by kernel_rfl) (by kernel_rfl)) <|
              .cons (d := some 72) (by kernel_rfl) (does_load (t := 24) (x := .tmp 8) (k := 2) (off := 0) (b := ⟨[.int .i64 e_x, .int .i64 e_y], 24, true, 2⟩) (v := .agg #[.int .i64 e_x, .int .i64 e_y]) (by kernel_rfl) (by kernel_rfl) (by kernel_rfl) (by kernel_rfl)) <|
              .cons (d := some 73) (by kernel_rfl) (does_call0 (x := .func 35) (ars := #[.tmp 70, .tmp 71, .tmp 72]) (ats := #[24, 24, 24]) (g := 35) (vs := [.agg #[.int .i64 0, .int .i64 0], .agg #[.int .i64 dx, .int .i64 dy], .agg #[.int .i64 e_x, .int .i64 e_y]]) (v := .int .i64 (Sp.crs 0 0 dx dy e_x e_y)) (by kernel_rfl) (by kernel_rfl) (by kernel_rfl) (by kernel_rfl) (cross_in 0 0 dx dy e_x e_y (by omega) (by omega) (by omega) (by omega) (by omega) (by omega) (by omega) (by omega) (by omega) (by omega) (by omega) (by omega)) (by kernel_rfl) (by kernel_rfl)) <|
              .cons (d := some 74) (by kernel_rfl) (does_bool (b' := false) (does_pure (v := .bool ((Sp.crs 0 0 dx dy e_x e_y) == 0)) (by kernel_rfl) (fun w => by kernel_rfl) (by kernel_rfl)) (h7)) <|
              .cons (d := some 75) (by kernel_rfl) (does_pick (c := .tmp 69) (x := .tmp 74) (y := .const (.bool false)) (b := true) (v := .bool false) (by kernel_rfl) (by kernel_rfl) (by kernel_rfl)) <|
              .cons (d := some 76) (by kernel_rfl) (does_move (x := .tmp 75) (v := .bool false) (by kernel_rfl) (by kernel_rfl)) <|
              .cons (d := some 77) (by kernel_rfl) (does_skipB (by kernel_rfl)) <|
              .cons (d := some 78) (by kernel_rfl) (does_skipB (by kernel_rfl)) <|
              .cons (d := some 79) (by kernel_rfl) (does_skipB (by kernel_rfl)) <|
              .cons (d := some 80) (by kernel_rfl) (does_skipB (by kernel_rfl)) <|
              .cons (d := some 81) (by kernel_rfl) (does_skipB (by kernel_rfl)) <|
              .cons (d := some 82) (by kernel_rfl) (does_pick (c := .tmp 76) (x := .tmp 81) (y := .const (.bool false)) (b := false) (v := .bool false) (by kernel_rfl) (by kernel_rfl) (by kernel_rfl)) <|
              .cons (d := some 83) (by kernel_rfl) (does_pick (c := .tmp 60) (x := .const (.bool true)) (y := .tmp 82) (b := false) (v := .bool false) (by kernel_rfl) (by kernel_rfl) (by kernel_rfl)) <|
              .cons (d := some 84) (by kernel_rfl) (does_bool (b' := (Sp.angle dx dy e_x e_y) == 0) (does_pure (v := .bool (!(((Sp.angle dx dy e_x e_y) == 0) == false))) (by kernel_rfl) (fun w => by kernel_rfl) (by kernel_rfl)) (bb4 _)) <|
              .nil _ _) ?_
          refine aw_weak (weak_b (T := [(6, .bool false), (7, .pointer (some ⟨1, 0, none⟩)), (8, .pointer (some ⟨2, 0, none⟩)), (9, .pointer (some ⟨3, 0, none⟩)), (10, .int .i64 (Sp.angle dx dy e_x e_y)), (18, .bool false), (84, .bool ((Sp.angle dx dy e_x e_y) == 0))]) (L := [(1, ⟨[.int .i64 dx, .int .i64 dy], 24, true, 2⟩), (2, ⟨[.int .i64 e_x, .int .i64 e_y], 24, true, 2⟩), (3, ⟨[.int .i64 fx, .int .i64 fy], 24, true, 2⟩)]) (by kernel_rfl) (by kernel_rfl) (by kernel_rfl)) ?_
          refine aw_cond (o := .tmp 84) (b := (Sp.angle dx dy e_x e_y) == 0) (x := sub (bodyOf Try.f9) [true, true, true, true, true, false, true, false]) (y := sub (bodyOf Try.f9) [true, true, true, true, true, false, true, true]) (by kernel_rfl) (by kernel_rfl) (fun h19 => ?_) (fun h19 => ?_)
          · have h19p : (((Sp.angle dx dy e_x e_y) = 0)) := by first | (simpa using h19) | (have h19q := h19; simp at h19q; omega) | (have h19q := bx1 h19; simp at h19q; omega)
            refine aw_plain_seq (r := sub (bodyOf Try.f9) [true, true, true, true, true, false, true, false, false]) (y := sub (bodyOf Try.f9) [true, true, true, true, true, false, true, false, true]) (id := 8) (ops := regOps (sub (bodyOf Try.f9) [true, true, true, true, true, false, true, false, false])) (by kernel_rfl) (by kernel_rfl) (by kernel_rfl) (by kernel_rfl) (
                .cons (d := some 6) (by kernel_rfl) (does_assign (x := .const (.bool false)) (v := .bool false) (by kernel_rfl) (by kernel_rfl)) <|
                .nil _ _) ?_
            refine aw_weak (weak_b (T := [(6, .bool false), (7, .pointer (some ⟨1, 0, none⟩)), (8, .pointer (some ⟨2, 0, none⟩)), (9, .pointer (some ⟨3, 0, none⟩)), (10, .int .i64 (Sp.angle dx dy e_x e_y)), (18, .bool false), (84, .bool ((Sp.angle dx dy e_x e_y) == 0))]) (L := [(1, ⟨[.int .i64 dx, .int .i64 dy], 24, true, 2⟩), (2, ⟨[.int .i64 e_x, .int .i64 e_y], 24, true, 2⟩), (3, ⟨[.int .i64 fx, .int .i64 fy], 24, true, 2⟩)]) (by kernel_rfl) (by kernel_rfl) (by kernel_rfl)) ?_
            refine aw_ret (by kernel_rfl) ?_
            refine then_ret ?_
            exact end_ret (vs := [.bool false]) (by kernel_rfl) (show (.bool false : Value) = (.bool true) from (congrArg Value.bool (show false = true from by (first | (exfalso; omega) | (exfalso; omega) | (rw [beq_iff_eq, Int.zero_sub, Int.zero_sub]; exact A4 (by omega)))))) trivial
          · have h19p : ¬ (((Sp.angle dx dy e_x e_y) = 0)) := by first | (simpa using h19) | (have h19q := h19; simp at h19q; omega) | (have h19q := bx2 h19; simp at h19q; omega)
            refine aw_skip (by kernel_rfl) ?_
            refine then_normal ?_
            refine aw_weak (weak_b (T := [(6, .bool false), (7, .pointer (some ⟨1, 0, none⟩)), (8, .pointer (some ⟨2, 0, none⟩)), (9, .pointer (some ⟨3, 0, none⟩)), (10, .int .i64 (Sp.angle dx dy e_x e_y)), (18, .bool false)]) (L := [(1, ⟨[.int .i64 dx, .int .i64 dy], 24, true, 2⟩), (2, ⟨[.int .i64 e_x, .int .i64 e_y], 24, true, 2⟩), (3, ⟨[.int .i64 fx, .int .i64 fy], 24, true, 2⟩)]) (by kernel_rfl) (by kernel_rfl) (by kernel_rfl)) ?_
            exact K2
      · have h6p : ¬ (¬ ((e_x = 0 ∧ e_y = 0))) := by first | (simpa using h6) | (have h6q := h6; simp at h6q; omega) | (have h6q := bx4 h6; simp at h6q; omega)
        refine aw_draws_seq (r := sub (bodyOf Try.f9) [true, true, true, true, true, false, false]) (y := sub (bodyOf Try.f9) [true, true, true, true, true, false, true]) (id := 7) (ops := regOps (sub (bodyOf Try.f9) [true, true, true, true, true, false, false])) [[], [0], [], [], [2, 3], [2, 3, 4], [2, 3, 4, 5], [2, 3, 4, 5], [2, 3, 4, 5, 6, 7], [2, 3, 4, 5, 6, 7, 8], [2, 3, 4, 5, 6, 7, 8, 9], [2, 3, 4, 5, 6, 7, 8, 9, 10], [2, 3, 4, 5, 6, 7, 8, 9, 10], [2, 3, 4, 5, 6, 7, 8, 9, 10, 11, 12], [2, 3, 4, 5, 6, 7, 8, 9, 10, 11, 12, 13], [2, 3, 4, 5, 6, 7, 8, 9, 10, 11, 12, 13, 14], [2, 3, 4, 5, 6, 7, 8, 9, 10, 11, 12, 13, 14], [2, 3, 4, 5, 6, 7, 8, 9, 10, 11, 12, 13, 14, 15, 16], [2, 3, 4, 5, 6, 7, 8, 9, 10, 11, 12, 13, 14, 15, 16, 17], [2, 3, 4, 5, 6, 7, 8, 9, 10, 11, 12, 13, 14, 15, 16, 17, 18], [2, 3, 4, 5, 6, 7, 8, 9, 10, 11, 12, 13, 14, 15, 16, 17, 18, 19], [2, 3, 4, 5, 6, 7, 8, 9, 10, 11, 12, 13, 14, 15, 16, 17, 18, 19], [2, 3, 4, 5, 6, 7, 8, 9, 10, 11, 12, 13, 14, 15, 16, 17, 18, 19], [2, 3, 4, 5, 6, 7, 8, 9, 10, 11, 12, 13, 14, 15, 16, 17, 18, 19, 20, 21, 22], [2, 3, 4, 5, 6, 7, 8, 9, 10, 11, 12, 13, 14, 15, 16, 17, 18, 19, 20, 21, 22, 23], [2, 3, 4, 5, 6, 7, 8, 9, 10, 11, 12, 13, 14, 15, 16, 17, 18, 19, 20, 21, 22, 23, 24], [2, 3, 4, 5, 6, 7, 8, 9, 10, 11, 12, 13, 14, 15, 16, 17, 18, 19, 20, 21, 22, 23, 24, 25], [2, 3, 4, 5, 6, 7, 8, 9, 10, 11, 12, 13, 14, 15, 16, 17, 18, 19, 20, 21, 22, 23, 24, 25, 26], [2, 3, 4, 5, 6, 7, 8, 9, 10, 11, 12, 13, 14, 15, 16, 17, 18, 19, 20, 21, 22, 23, 24, 25, 26], [2, 3, 4, 5, 6, 7, 8, 9, 10, 11, 12, 13, 14, 15, 16, 17, 18, 19, 20, 21, 22, 23, 24, 25, 26], [2, 3, 4, 5, 6, 7, 8, 9, 10, 11, 12, 13, 14, 15, 16, 17, 18, 19, 20, 21, 22, 23, 24, 25, 26, 27, 28, 29], [2, 3, 4, 5, 6, 7, 8, 9, 10, 11, 12, 13, 14, 15, 16, 17, 18, 19, 20, 21, 22, 23, 24, 25, 26, 27, 28, 29, 30], [2, 3, 4, 5, 6, 7, 8, 9, 10, 11, 12, 13, 14, 15, 16, 17, 18, 19, 20, 21, 22, 23, 24, 25, 26, 27, 28, 29, 30, 31], [2, 3, 4, 5, 6, 7, 8, 9, 10, 11, 12, 13, 14, 15, 16, 17, 18, 19, 20, 21, 22, 23, 24, 25, 26, 27, 28, 29, 30, 31, 32], [0, 1, 2, 3, 4, 5, 6, 7, 8, 9, 10, 11, 12, 13, 14, 15, 16, 17, 18, 19, 20, 21, 22, 23, 24, 25, 26, 27, 28, 29, 30, 31, 32, 33]] (by kernel_rfl) (by kernel_rfl) (by kernel_rfl) (by kernel_rfl) (by kernel_rfl) (by kernel_rfl) (
            .cons (d := some 50) (by kernel_rfl) (does_move (x := .tmp 10) (v := .int .i64 (Sp.angle dx dy e_x e_y)) (by kernel_rfl) (by kernel_rfl)) <|
            .cons (d := some 51) (by kernel_rfl) (does_pure (v := .bool ((Sp.angle dx dy e_x e_y) == 0)) (by kernel_rfl) (fun w => by kernel_rfl) (by kernel_rfl)) <|
            .cons (d := some 52) (by kernel_rfl) (does_load (t := 24) (x := .tmp 7) (k := 1) (off := 0) (b := ⟨[.int .i64 dx, .int .i64 dy], 24, true, 2⟩) (v := .agg #[.int .i64 dx, .int .i64 dy]) (by kernel_rfl) (by kernel_rfl) (by kernel_rfl) (by kernel_rfl)) <|
            .cons (d := some 53) (by kernel_rfl) (does_call0 (x := .func 48) (ars := #[.const (.int .i64 0), .const (.int .i64 0)]) (ats := #[3, 3]) (g := 48) (vs := [.int .i64 0, .int .i64 0]) (v := .agg #[.int .i64 0, .int .i64 0]) (by kernel_rfl) (by kernel_rfl) (by kernel_rfl) (by kernel_rfl) (terrkeep1_at_ok 0 0) (by kernel_rfl) (by kernel_rfl)) <|
            .cons (d := some 54) (by kernel_rfl) (does_bool (b' := false) (does_eql (t := 24) (t2 := 24) (x := .tmp 52) (y := .tmp 53) (xs := #[.int .i64 dx, .int .i64 dy]) (ys := #[.int .i64 0, .int .i64 0]) (b := ((dx == 0) && ((dy == 0) && true))) (by kernel_rfl) (by kernel_rfl) (by kernel_rfl) (by kernel_rfl) (by kernel_rfl) (by kernel_rfl) (by kernel_rfl)) (h4)) <|
            .cons (d := some 55) (by kernel_rfl) (does_move (x := .tmp 54) (v := .bool false) (by kernel_rfl) (by kernel_rfl)) <|
            .cons (d := some 56) (by kernel_rfl) (does_skipB (by kernel_rfl)) <|
            .cons (d := some 57) (by kernel_rfl) (does_skipB (by kernel_rfl)) <|
            .cons (d := some 58) (by kernel_rfl) (does_skipB (by kernel_rfl)) <|
            .cons (d := some 59) (by kernel_rfl) (does_pick (c := .tmp 55) (x := .tmp 58) (y := .const (.bool false)) (b := false) (v := .bool false) (by kernel_rfl) (by kernel_rfl) (by kernel_rfl)) <|
            .cons (d := some 60) (by kernel_rfl) (does_move (x := .tmp 59) (v := .bool false) (by kernel_rfl) (by kernel_rfl)) <|
            .cons (d := some 61) (by kernel_rfl) (does_load (t := 24) (x := .tmp 7) (k := 1) (off := 0) (b := ⟨[.int .i64 dx, .int .i64 dy], 24, true, 2⟩) (v := .agg #[.int .i64 dx, .int .i64 dy]) (by kernel_rfl) (by kernel_rfl) (by kernel_rfl) (by kernel_rfl)) <|
            .cons (d := some 62) (by kernel_rfl) (does_call0 (x := .func 48) (ars := #[.const (.int .i64 0), .const (.int .i64 0)]) (ats := #[3, 3]) (g := 48) (vs := [.int .i64 0, .int .i64 0]) (v := .agg #[.int .i64 0, .int .i64 0]) (by kernel_rfl) (by kernel_rfl) (by kernel_rfl) (by kernel_rfl) (terrkeep1_at_ok 0 0) (by kernel_rfl) (by kernel_rfl)) <|
            .cons (d := some 63) (by kernel_rfl) (does_bool (b' := true) (does_neq (t := 24) (t2 := 24) (x := .tmp 61) (y := .tmp 62) (xs := #[.int .i64 dx, .int .i64 dy]) (ys := #[.int .i64 0, .int .i64 0]) (b := ((dx == 0) && ((dy == 0) && true))) (by kernel_rfl) (by kernel_rfl) (by kernel_rfl) (by kernel_rfl) (by kernel_rfl) (by kernel_rfl) (by kernel_rfl)) (not_f h4)) <|
            .cons (d := some 64) (by kernel_rfl) (does_move (x := .tmp 63) (v := .bool true) (by kernel_rfl) (by kernel_rfl)) <|
            .cons (d := some 65) (by kernel_rfl) (does_load (t := 24) (x := .tmp 8) (k := 2) (off := 0) (b := ⟨[.int .i64 e_x, .int .i64 e_y], 24, true, 2⟩) (v := .agg #[.int .i64 e_x, .int .i64 e_y]) (by kernel_rfl) (by kernel_rfl) (by kernel_rfl) (by kernel_rfl)) <|
            .cons (d := some 66) (by kernel_rfl) (does_call0 (x := .func 48) (ars := #[.const (.int .i64 0), .const (.int .i64 0)]) (ats := #[3, 3]) (g := 48) (vs := [.int .i64 0, .int .i64 0]) (v := .agg #[.int .i64 0, .int .i64 0]) (by kernel_rfl) (by kernel_rfl) (by kernel_rfl) (by kernel_rfl) (terrkeep1_at_ok 0 0) (by kernel_rfl) (by kernel_rfl)) <|
            .cons (d := some 67) (by kernel_rfl) (does_bool (b' := false) (does_neq (t := 24) (t2 := 24) (x := .tmp 65) (y := .tmp 66) (xs := #[.int .i64 e_x, .int .i64 e_y]) (ys := #[.int .i64 0, .int .i64 0]) (b := ((e_x == 0) && ((e_y == 0) && true))) (by kernel_rfl) (by kernel_rfl) (by kernel_rfl) (by kernel_rfl) (by kernel_rfl) (by kernel_rfl) (by kernel_rfl)) (h6)) <|
            .cons (d := some 68) (by kernel_rfl) (does_pick (c := .tmp 64) (x := .tmp 67) (y := .const (.bool false)) (b := true) (v := .bool false) (by kernel_rfl) (by kernel_rfl) (by kernel_rfl)) <|
            .cons (d := some 69) (by kernel_rfl) (does_move (x := .tmp 68) (v := .bool false) (by kernel_rfl) (by kernel_rfl)) <|
            .cons (d := some 70) (by kernel_rfl) (does_skipB (by kernel_rfl)) <|
            .cons (d := some 71) (by kernel_rfl) (does_skipB (by kernel_rfl)) <|
            .cons (d := some 72) (by kernel_rfl) (does_skipB (by kernel_rfl)) <|
            .cons (d := some 73) (by kernel_rfl) (does_skipB (by kernel_rfl)) <|
            .cons (d := some 74) (by kernel_rfl) (does_skipB (by kernel_rfl)) <|
            .cons (d := some 75) (by kernel_rfl) (does_pick (c := .tmp 69) (x := .tmp 74) (y := .const (.bool false)) (b := false) (v := .bool false) (by kernel_rfl) (by kernel_rfl) (by kernel_rfl)) <|
            .cons (d := some 76) (by kernel_rfl) (does_move (x := .tmp 75) (v := .bool false) (by kernel_rfl) (by kernel_rfl)) <|
            .cons (d := some 77) (by kernel_rfl) (does_skipB (by kernel_rfl)) <|
            .cons (d := some 78) (by kernel_rfl) (does_skipB (by kernel_rfl)) <|
            .cons (d := some 79) (by kernel_rfl) (does_skipB (by kernel_rfl)) <|
            .cons (d := some 80) (by kernel_rfl) (does_skipB (by kernel_rfl)) <|
            .cons (d := some 81) (by kernel_rfl) (does_skipB (by kernel_rfl)) <|
            .cons (d := some 82) (by kernel_rfl) (does_pick (c := .tmp 76) (x := .tmp 81) (y := .const (.bool false)) (b := false) (v := .bool false) (by kernel_rfl) (by kernel_rfl) (by kernel_rfl)) <|
            .cons (d := some 83) (by kernel_rfl) (does_pick (c := .tmp 60) (x := .const (.bool true)) (y := .tmp 82) (b := false) (v := .bool false) (by kernel_rfl) (by kernel_rfl) (by kernel_rfl)) <|
            .cons (d := some 84) (by kernel_rfl) (does_bool (b' := (Sp.angle dx dy e_x e_y) == 0) (does_pure (v := .bool (!(((Sp.angle dx dy e_x e_y) == 0) == false))) (by kernel_rfl) (fun w => by kernel_rfl) (by kernel_rfl)) (bb4 _)) <|
            .nil _ _) ?_
        refine aw_weak (weak_b (T := [(6, .bool false), (7, .pointer (some ⟨1, 0, none⟩)), (8, .pointer (some ⟨2, 0, none⟩)), (9, .pointer (some ⟨3, 0, none⟩)), (10, .int .i64 (Sp.angle dx dy e_x e_y)), (18, .bool false), (84, .bool ((Sp.angle dx dy e_x e_y) == 0))]) (L := [(1, ⟨[.int .i64 dx, .int .i64 dy], 24, true, 2⟩), (2, ⟨[.int .i64 e_x, .int .i64 e_y], 24, true, 2⟩), (3, ⟨[.int .i64 fx, .int .i64 fy], 24, true, 2⟩)]) (by kernel_rfl) (by kernel_rfl) (by kernel_rfl)) ?_
        refine aw_cond (o := .tmp 84) (b := (Sp.angle dx dy e_x e_y) == 0) (x := sub (bodyOf Try.f9) [true, true, true, true, true, false, true, false]) (y := sub (bodyOf Try.f9) [true, true, true, true, true, false, true, true]) (by kernel_rfl) (by kernel_rfl) (fun h20 => ?_) (fun h20 => ?_)
        · have h20p : (((Sp.angle dx dy e_x e_y) = 0)) := by first | (simpa using h20) | (have h20q := h20; simp at h20q; omega) | (have h20q := bx1 h20; simp at h20q; omega)
          refine aw_plain_seq (r := sub (bodyOf Try.f9) [true, true, true, true, true, false, true, false, false]) (y := sub (bodyOf Try.f9) [true, true, true, true, true, false, true, false, true]) (id := 8) (ops := regOps (sub (bodyOf Try.f9) [true, true, true, true, true, false, true, false, false])) (by kernel_rfl) (by kernel_rfl) (by kernel_rfl) (by kernel_rfl) (
              .cons (d := some 6) (by kernel_rfl) (does_assign (x := .const (.bool false)) (v := .bool false) (by kernel_rfl) (by kernel_rfl)) <|
              .nil _ _) ?_
          refine aw_weak (weak_b (T := [(6, .bool false), (7, .pointer (some ⟨1, 0, none⟩)), (8, .pointer (some ⟨2, 0, none⟩)), (9, .pointer (some ⟨3, 0, none⟩)), (10, .int .i64 (Sp.angle dx dy e_x e_y)), (18, .bool false), (84, .bool ((Sp.angle dx dy e_x e_y) == 0))]) (L := [(1, ⟨[.int .i64 dx, .int .i64 dy], 24, true, 2⟩), (2, ⟨[.int .i64 e_x, .int .i64 e_y], 24, true, 2⟩), (3, ⟨[.int .i64 fx, .int .i64 fy], 24, true, 2⟩)]) (by kernel_rfl) (by kernel_rfl) (by kernel_rfl)) ?_
          refine aw_ret (by kernel_rfl) ?_
          refine then_ret ?_
          exact end_ret (vs := [.bool false]) (by kernel_rfl) (show (.bool false : Value) = (.bool true) from (congrArg Value.bool (show false = true from by (first | (exfalso; omega) | (exfalso; omega) | (rw [beq_iff_eq, Int.zero_sub, Int.zero_sub]; exact A4 (by omega)))))) trivial
        · have h20p : ¬ (((Sp.angle dx dy e_x e_y) = 0)) := by first | (simpa using h20) | (have h20q := h20; simp at h20q; omega) | (have h20q := bx2 h20; simp at h20q; omega)
          refine aw_skip (by kernel_rfl) ?_
          refine then_normal ?_
          refine aw_weak (weak_b (T := [(6, .bool false), (7, .pointer (some ⟨1, 0, none⟩)), (8, .pointer (some ⟨2, 0, none⟩)), (9, .pointer (some ⟨3, 0, none⟩)), (10, .int .i64 (Sp.angle dx dy e_x e_y)), (18, .bool false)]) (L := [(1, ⟨[.int .i64 dx, .int .i64 dy], 24, true, 2⟩), (2, ⟨[.int .i64 e_x, .int .i64 e_y], 24, true, 2⟩), (3, ⟨[.int .i64 fx, .int .i64 fy], 24, true, 2⟩)]) (by kernel_rfl) (by kernel_rfl) (by kernel_rfl)) ?_
          exact K2
  rcases Bool.eq_false_or_eq_true ((Sp.angle dx dy e_x e_y) != (0 - (Sp.angle e_x e_y dx dy))) with h1 | h1
  · have h1p : (¬ ((Sp.angle dx dy e_x e_y) = (0 - (Sp.angle e_x e_y dx dy)))) := by first | (simpa using h1) | (have h1q := h1; simp at h1q; omega) | (have h1q := bx1 h1; simp at h1q; omega)
    refine aw_plain_seq (r := sub (bodyOf Try.f9) [true, true, true, true, false, false]) (y := sub (bodyOf Try.f9) [true, true, true, true, false, true]) (id := 5) (ops := regOps (sub (bodyOf Try.f9) [true, true, true, true, false, false])) (by kernel_rfl) (by kernel_rfl) (by kernel_rfl) (by kernel_rfl) (
        .cons (d := some 28) (by kernel_rfl) (does_move (x := .tmp 10) (v := .int .i64 (Sp.angle dx dy e_x e_y)) (by kernel_rfl) (by kernel_rfl)) <|
        .cons (d := some 29) (by kernel_rfl) (does_load (t := 24) (x := .tmp 8) (k := 2) (off := 0) (b := ⟨[.int .i64 e_x, .int .i64 e_y], 24, true, 2⟩) (v := .agg #[.int .i64 e_x, .int .i64 e_y]) (by kernel_rfl) (by kernel_rfl) (by kernel_rfl) (by kernel_rfl)) <|
        .cons (d := some 30) (by kernel_rfl) (does_load (t := 24) (x := .tmp 7) (k := 1) (off := 0) (b := ⟨[.int .i64 dx, .int .i64 dy], 24, true, 2⟩) (v := .agg #[.int .i64 dx, .int .i64 dy]) (by kernel_rfl) (by kernel_rfl) (by kernel_rfl) (by kernel_rfl)) <|
        .cons (d := some 31) (by kernel_rfl) (does_call0 (x := .func 59) (ars := #[.tmp 29, .tmp 30]) (ats := #[24, 24]) (g := 59) (vs := [.agg #[.int .i64 e_x, .int .i64 e_y], .agg #[.int .i64 dx, .int .i64 dy]]) (v := .int .i64 (Sp.angle e_x e_y dx dy)) (by kernel_rfl) (by kernel_rfl) (by kernel_rfl) (by kernel_rfl) (angle_in e_x e_y dx dy (by omega) (by omega) (by omega) (by omega) (by omega) (by omega) (by omega) (by omega)) (by kernel_rfl) (by kernel_rfl)) <|
        .cons (d := some 32) (by kernel_rfl) (does_int (n' := 0 - (Sp.angle e_x e_y dx dy)) (does_pure (v := .int .i64 (IntKind.wrap .i64 (0 - (Sp.angle e_x e_y dx dy)))) (by kernel_rfl) (fun w => by kernel_rfl) (by kernel_rfl)) (wrap_i64 (by omega) (by omega))) <|
        .cons (d := some 33) (by kernel_rfl) (does_bool (b' := true) (does_pure (v := .bool ((Sp.angle dx dy e_x e_y) != (0 - (Sp.angle e_x e_y dx dy)))) (by kernel_rfl) (fun w => by kernel_rfl) (by kernel_rfl)) (h1)) <|
        .cons (d := some 34) (by kernel_rfl) (does_move (x := .tmp 33) (v := .bool true) (by kernel_rfl) (by kernel_rfl)) <|
        .cons (d := some 35) (by kernel_rfl) (does_skipB (by kernel_rfl)) <|
        .cons (d := some 36) (by kernel_rfl) (does_skipB (by kernel_rfl)) <|
        .cons (d := some 37) (by kernel_rfl) (does_skipB (by kernel_rfl)) <|
        .cons (d := some 38) (by kernel_rfl) (does_skipB (by kernel_rfl)) <|
        .cons (d := some 39) (by kernel_rfl) (does_skipB (by kernel_rfl)) <|
        .cons (d := some 40) (by kernel_rfl) (does_skipB (by kernel_rfl)) <|
        .cons (d := some 41) (by kernel_rfl) (does_skipB (by kernel_rfl)) <|
        .cons (d := some 42) (by kernel_rfl) (does_skipB (by kernel_rfl)) <|
        .cons (d := some 43) (by kernel_rfl) (does_skipB (by kernel_rfl)) <|
        .cons (d := some 44) (by kernel_rfl) (does_skipB (by kernel_rfl)) <|
        .cons (d := some 45) (by kernel_rfl) (does_skipB (by kernel_rfl)) <|
        .cons (d := some 46) (by kernel_rfl) (does_skipB (by kernel_rfl)) <|
        .cons (d := some 47) (by kernel_rfl) (does_skipB (by kernel_rfl)) <|
        .cons (d := some 48) (by kernel_rfl) (does_skipB (by kernel_rfl)) <|
        .cons (d := some 49) (by kernel_rfl) (does_pick (c := .tmp 34) (x := .const (.bool true)) (y := .tmp 48) (b := true) (v := .bool true) (by kernel_rfl) (by kernel_rfl) (by kernel_rfl)) <|
        .nil _ _) ?_
    refine aw_weak (weak_b (T := [(6, .bool false), (7, .pointer (some ⟨1, 0, none⟩)), (8, .pointer (some ⟨2, 0, none⟩)), (9, .pointer (some ⟨3, 0, none⟩)), (10, .int .i64 (Sp.angle dx dy e_x e_y)), (18, .bool false), (49, .bool true)]) (L := [(1, ⟨[.int .i64 dx, .int .i64 dy], 24, true, 2⟩), (2, ⟨[.int .i64 e_x, .int .i64 e_y], 24, true, 2⟩), (3, ⟨[.int .i64 fx, .int .i64 fy], 24, true, 2⟩)]) (by kernel_rfl) (by kernel_rfl) (by kernel_rfl)) ?_
    refine aw_true (o := .tmp 49) (x := sub (bodyOf Try.f9) [true, true, true, true, false, true, false]) (y := sub (bodyOf Try.f9) [true, true, true, true, false, true, true]) (by kernel_rfl) (by kernel_rfl) ?_
    refine aw_plain_seq (r := sub (bodyOf Try.f9) [true, true, true, true, false, true, false, false]) (y := sub (bodyOf Try.f9) [true, true, true, true, false, true, false, true]) (id := 6) (ops := regOps (sub (bodyOf Try.f9) [true, true, true, true, false, true, false, false])) (by kernel_rfl) (by kernel_rfl) (by kernel_rfl) (by kernel_rfl) (
        .cons (d := some 6) (by kernel_rfl) (does_assign (x := .const (.bool false)) (v := .bool false) (by kernel_rfl) (by kernel_rfl)) <|
        .nil _ _) ?_
    refine aw_weak (weak_b (T := [(6, .bool false), (7, .pointer (some ⟨1, 0, none⟩)), (8, .pointer (some ⟨2, 0, none⟩)), (9, .pointer (some ⟨3, 0, none⟩)), (10, .int .i64 (Sp.angle dx dy e_x e_y)), (18, .bool false), (49, .bool true)]) (L := [(1, ⟨[.int .i64 dx, .int .i64 dy], 24, true, 2⟩), (2, ⟨[.int .i64 e_x, .int .i64 e_y], 24, true, 2⟩), (3, ⟨[.int .i64 fx, .int .i64 fy], 24, true, 2⟩)]) (by kernel_rfl) (by kernel_rfl) (by kernel_rfl)) ?_
    refine aw_ret (by kernel_rfl) ?_
    refine then_ret ?_
    exact end_ret (vs := [.bool false]) (by kernel_rfl) (show (.bool false : Value) = (.bool true) from (congrArg Value.bool (show false = true from by (first | (exfalso; omega) | (exfalso; omega) | (rw [beq_iff_eq, Int.zero_sub, Int.zero_sub]; exact A4 (by omega)))))) trivial
  · have h1p : ¬ (¬ ((Sp.angle dx dy e_x e_y) = (0 - (Sp.angle e_x e_y dx dy)))) := by first | (simpa using h1) | (have h1q := h1; simp at h1q; omega) | (have h1q := bx2 h1; simp at h1q; omega)
    rcases Bool.eq_false_or_eq_true (decide ((Sp.angle dx dy e_x e_y) ≤ 0)) with h2 | h2
    · have h2p : (((Sp.angle dx dy e_x e_y) ≤ 0)) := by first | (simpa using h2) | (have h2q := h2; simp at h2q; omega) | (have h2q := bx1 h2; simp at h2q; omega)
      rcases Bool.eq_false_or_eq_true (decide ((Sp.angle e_x e_y fx fy) ≤ 0)) with h3 | h3
      · have h3p : (((Sp.angle e_x e_y fx fy) ≤ 0)) := by first | (simpa using h3) | (have h3q := h3; simp at h3q; omega) | (have h3q := bx1 h3; simp at h3q; omega)
        refine aw_plain_seq (r := sub (bodyOf Try.f9) [true, true, true, true, false, false]) (y := sub (bodyOf Try.f9) [true, true, true, true, false, true]) (id := 5) (ops := regOps (sub (bodyOf Try.f9) [true, true, true, true, false, false])) (by kernel_rfl) (by kernel_rfl) (by kernel_rfl) (by kernel_rfl) (
            .cons (d := some 28) (by kernel_rfl) (does_move (x := .tmp 10) (v := .int .i64 (Sp.angle dx dy e_x e_y)) (by kernel_rfl) (by kernel_rfl)) <|
            .cons (d := some 29) (by kernel_rfl) (does_load (t := 24) (x := .tmp 8) (k := 2) (off := 0) (b := ⟨[.int .i64 e_x, .int .i64 e_y], 24, true, 2⟩) (v := .agg #[.int .i64 e_x, .int .i64 e_y]) (by kernel_rfl) (by kernel_rfl) (by kernel_rfl) (by kernel_rfl)) <|
            .cons (d := some 30) (by kernel_rfl) (does_load (t := 24) (x := .tmp 7) (k := 1) (off := 0) (b := ⟨[.int .i64 dx, .int .i64 dy], 24, true, 2⟩) (v := .agg #[.int .i64 dx, .int .i64 dy]) (by kernel_rfl) (by kernel_rfl) (by kernel_rfl) (by kernel_rfl)) <|
            .cons (d := some 31) (by kernel_rfl) (does_call0 (x := .func 59) (ars := #[.tmp 29, .tmp 30]) (ats := #[24, 24]) (g := 59) (vs := [.agg #[.int .i64 e_x, .int .i64 e_y], .agg #[.int .i64 dx, .int .i64 dy]]) (v := .int .i64 (Sp.angle e_x e_y dx dy)) (by kernel_rfl) (by kernel_rfl) (by kernel_rfl) (by kernel_rfl) (angle_in e_x e_y dx dy (by omega) (by omega) (by omega) (by omega) (by omega) (by omega) (by omega) (by omega)) (by kernel_rfl) (by kernel_rfl)) <|
            .cons (d := some 32) (by kernel_rfl) (does_int (n' := 0 - (Sp.angle e_x e_y dx dy)) (does_pure (v := .int .i64 (IntKind.wrap .i64 (0 - (Sp.angle e_x e_y dx dy)))) (by kernel_rfl) (fun w => by kernel_rfl) (by kernel_rfl)) (wrap_i64 (by omega) (by omega))) <|
            .cons (d := some 33) (by kernel_rfl) (does_bool (b' := false) (does_pure (v := .bool ((Sp.angle dx dy e_x e_y) != (0 - (Sp.angle e_x e_y dx dy)))) (by kernel_rfl) (fun w => by kernel_rfl) (by kernel_rfl)) (h1)) <|
            .cons (d := some 34) (by kernel_rfl) (does_move (x := .tmp 33) (v := .bool false) (by kernel_rfl) (by kernel_rfl)) <|
            .cons (d := some 35) (by kernel_rfl) (does_move (x := .tmp 10) (v := .int .i64 (Sp.angle dx dy e_x e_y)) (by kernel_rfl) (by kernel_rfl)) <|
            .cons (d := some 36) (by kernel_rfl) (does_bool (b' := true) (does_pure (v := .bool (decide ((Sp.angle dx dy e_x e_y) ≤ 0))) (by kernel_rfl) (fun w => by kernel_rfl) (by kernel_rfl)) (h2)) <|
            .cons (d := some 37) (by kernel_rfl) (does_move (x := .tmp 36) (v := .bool true) (by kernel_rfl) (by kernel_rfl)) <|
            .cons (d := some 38) (by kernel_rfl) (does_load (t := 24) (x := .tmp 8) (k := 2) (off := 0) (b := ⟨[.int .i64 e_x, .int .i64 e_y], 24, true, 2⟩) (v := .agg #[.int .i64 e_x, .int .i64 e_y]) (by kernel_rfl) (by kernel_rfl) (by kernel_rfl) (by kernel_rfl)) <|
            .cons (d := some 39) (by kernel_rfl) (does_load (t := 24) (x := .tmp 9) (k := 3) (off := 0) (b := ⟨[.int .i64 fx, .int .i64 fy], 24, true, 2⟩) (v := .agg #[.int .i64 fx, .int .i64 fy]) (by kernel_rfl) (by kernel_rfl) (by kernel_rfl) (by kernel_rfl)) <|
            .cons (d := some 40) (by kernel_rfl) (does_call0 (x := .func 59) (ars := #[.tmp 38, .tmp 39]) (ats := #[24, 24]) (g := 59) (vs := [.agg #[.int .i64 e_x, .int .i64 e_y], .agg #[.int .i64 fx, .int .i64 fy]]) (v := .int .i64 (Sp.angle e_x e_y fx fy)) (by kernel_rfl) (by kernel_rfl) (by kernel_rfl) (by kernel_rfl) (angle_in e_x e_y fx fy (by omega) (by omega) (by omega) (by omega) (by omega) (by omega) (by omega) (by omega)) (by kernel_rfl) (by kernel_rfl)) <|
            .cons (d := some 41) (by kernel_rfl) (does_bool (b' := true) (does_pure (v := .bool (decide ((Sp.angle e_x e_y fx fy) ≤ 0))) (by kernel_rfl) (fun w => by kernel_rfl) (by kernel_rfl)) (h3)) <|
            .cons (d := some 42) (by kernel_rfl) (does_pick (c := .tmp 37) (x := .tmp 41) (y := .const (.bool false)) (b := true) (v := .bool true) (by kernel_rfl) (by kernel_rfl) (by kernel_rfl)) <|
            .cons (d := some 43) (by kernel_rfl) (does_move (x := .tmp 42) (v := .bool true) (by kernel_rfl) (by kernel_rfl)) <|
            .cons (d := some 44) (by kernel_rfl) (does_load (t := 24) (x := .tmp 7) (k := 1) (off := 0) (b := ⟨[.int .i64 dx, .int .i64 dy], 24, true, 2⟩) (v := .agg #[.int .i64 dx, .int .i64 dy]) (by kernel_rfl) (by kernel_rfl) (by kernel_rfl) (by kernel_rfl)) <|
            .cons (d := some 45) (by kernel_rfl) (does_load (t := 24) (x := .tmp 9) (k := 3) (off := 0) (b := ⟨[.int .i64 fx, .int .i64 fy], 24, true, 2⟩) (v := .agg #[.int .i64 fx, .int .i64 fy]) (by kernel_rfl) (by kernel_rfl) (by kernel_rfl) (by kernel_rfl)) <|
            .cons (d := some 46) (by kernel_rfl) (does_call0 (x := .func 59) (ars := #[.tmp 44, .tmp 45]) (ats := #[24, 24]) (g := 59) (vs := [.agg #[.int .i64 dx, .int .i64 dy], .agg #[.int .i64 fx, .int .i64 fy]]) (v := .int .i64 (Sp.angle dx dy fx fy)) (by kernel_rfl) (by kernel_rfl) (by kernel_rfl) (by kernel_rfl) (angle_in dx dy fx fy (by omega) (by omega) (by omega) (by omega) (by omega) (by omega) (by omega) (by omega)) (by kernel_rfl) (by kernel_rfl)) <|
            .cons (d := some 47) (by kernel_rfl) (does_pure (v := .bool (decide ((Sp.angle dx dy fx fy) > 0))) (by kernel_rfl) (fun w => by kernel_rfl) (by kernel_rfl)) <|
            .cons (d := some 48) (by kernel_rfl) (does_pick (c := .tmp 43) (x := .tmp 47) (y := .const (.bool false)) (b := true) (v := .bool (decide ((Sp.angle dx dy fx fy) > 0))) (by kernel_rfl) (by kernel_rfl) (by kernel_rfl)) <|
            .cons (d := some 49) (by kernel_rfl) (does_pick (c := .tmp 34) (x := .const (.bool true)) (y := .tmp 48) (b := false) (v := .bool (decide ((Sp.angle dx dy fx fy) > 0))) (by kernel_rfl) (by kernel_rfl) (by kernel_rfl)) <|
            .nil _ _) ?_
        refine aw_weak (weak_b (T := [(6, .bool false), (7, .pointer (some ⟨1, 0, none⟩)), (8, .pointer (some ⟨2, 0, none⟩)), (9, .pointer (some ⟨3, 0, none⟩)), (10, .int .i64 (Sp.angle dx dy e_x e_y)), (18, .bool false), (49, .bool (decide ((Sp.angle dx dy fx fy) > 0)))]) (L := [(1, ⟨[.int .i64 dx, .int .i64 dy], 24, true, 2⟩), (2, ⟨[.int .i64 e_x, .int .i64 e_y], 24, true, 2⟩), (3, ⟨[.int .i64 fx, .int .i64 fy], 24, true, 2⟩)]) (by kernel_rfl) (by kernel_rfl) (by kernel_rfl)) ?_
        refine aw_cond (o := .tmp 49) (b := decide ((Sp.angle dx dy fx fy) > 0)) (x := sub (bodyOf Try.f9) [true, true, true, true, false, true, false]) (y := sub (bodyOf Try.f9) [true, true, true, true, false, true, true]) (by kernel_rfl) (by kernel_rfl) (fun h21 => ?_) (fun h21 => ?_)
        · have h21p : (((Sp.angle dx dy fx fy) > 0)) := by first | (simpa using h21) | (have h21q := h21; simp at h21q; omega) | (have h21q := bx1 h21; simp at h21q; omega)
          refine aw_plain_seq (r := sub (bodyOf Try.f9) [true, true, true, true, false, true, false, false]) (y := sub (bodyOf Try.f9) [true, true, true, true, false, true, false, true]) (id := 6) (ops := regOps (sub (bodyOf Try.f9) [true, true, true, true, false, true, false, false])) (by kernel_rfl) (by kernel_rfl) (by kernel_rfl) (by kernel_rfl) (
              .cons (d := some 6) (by kernel_rfl) (does_assign (x := .const (.bool false)) (v := .bool false) (by kernel_rfl) (by kernel_rfl)) <|
              .nil _ _) ?_
          refine aw_weak (weak_b (T := [(6, .bool false), (7, .pointer (some ⟨1, 0, none⟩)), (8, .pointer (some ⟨2, 0, none⟩)), (9, .pointer (some ⟨3, 0, none⟩)), (10, .int .i64 (Sp.angle dx dy e_x e_y)), (18, .bool false), (49, .bool (decide ((Sp.angle dx dy fx fy) > 0)))]) (L := [(1, ⟨[.int .i64 dx, .int .i64 dy], 24, true, 2⟩), (2, ⟨[.int .i64 e_x, .int .i64 e_y], 24, true, 2⟩), (3, ⟨[.int .i64 fx, .int .i64 fy], 24, true, 2⟩)]) (by kernel_rfl) (by kernel_rfl) (by kernel_rfl)) ?_
          refine aw_ret (by kernel_rfl) ?_
          refine then_ret ?_
          exact end_ret (vs := [.bool false]) (by kernel_rfl) (show (.bool false : Value) = (.bool true) from (congrArg Value.bool (show false = true from by (first | (exfalso; omega) | (exfalso; omega) | (rw [beq_iff_eq, Int.zero_sub, Int.zero_sub]; exact A4 (by omega)))))) trivial
        · have h21p : ¬ (((Sp.angle dx dy fx fy) > 0)) := by first | (simpa using h21) | (have h21q := h21; simp at h21q; omega) | (have h21q := bx2 h21; simp at h21q; omega)
          refine aw_skip (by kernel_rfl) ?_
          refine then_normal ?_
          refine aw_weak (weak_b (T := [(6, .bool false), (7, .pointer (some ⟨1, 0, none⟩)), (8, .pointer (some ⟨2, 0, none⟩)), (9, .pointer (some ⟨3, 0, none⟩)), (10, .int .i64 (Sp.angle dx dy e_x e_y)), (18, .bool false)]) (L := [(1, ⟨[.int .i64 dx, .int .i64 dy], 24, true, 2⟩), (2, ⟨[.int .i64 e_x, .int .i64 e_y], 24, true, 2⟩), (3, ⟨[.int .i64 fx, .int .i64 fy], 24, true, 2⟩)]) (by kernel_rfl) (by kernel_rfl) (by kernel_rfl)) ?_
          exact K1
      · have h3p : ¬ (((Sp.angle e_x e_y fx fy) ≤ 0)) := by first | (simpa using h3) | (have h3q := h3; simp at h3q; omega) | (have h3q := bx2 h3; simp at h3q; omega)
        refine aw_plain_seq (r := sub (bodyOf Try.f9) [true, true, true, true, false, false]) (y := sub (bodyOf Try.f9) [true, true, true, true, false, true]) (id := 5) (ops := regOps (sub (bodyOf Try.f9) [true, true, true, true, false, false])) (by kernel_rfl) (by kernel_rfl) (by kernel_rfl) (by kernel_rfl) (
            .cons (d := some 28) (by kernel_rfl) (does_move (x := .tmp 10) (v := .int .i64 (Sp.angle dx dy e_x e_y)) (by kernel_rfl) (by kernel_rfl)) <|
            .cons (d := some 29) (by kernel_rfl) (does_load (t := 24) (x := .tmp 8) (k := 2) (off := 0) (b := ⟨[.int .i64 e_x, .int .i64 e_y], 24, true, 2⟩) (v := .agg #[.int .i64 e_x, .int .i64 e_y]) (by kernel_rfl) (by kernel_rfl) (by kernel_rfl) (by kernel_rfl)) <|
            .cons (d := some 30) (by kernel_rfl) (does_load (t := 24) (x := .tmp 7) (k := 1) (off := 0) (b := ⟨[.int .i64 dx, .int .i64 dy], 24, true, 2⟩) (v := .agg #[.int .i64 dx, .int .i64 dy]) (by kernel_rfl) (by kernel_rfl) (by kernel_rfl) (by kernel_rfl)) <|
            .cons (d := some 31) (by kernel_rfl) (does_call0 (x := .func 59) (ars := #[.tmp 29, .tmp 30]) (ats := #[24, 24]) (g := 59) (vs := [.agg #[.int .i64 e_x, .int .i64 e_y], .agg #[.int .i64 dx, .int .i64 dy]]) (v := .int .i64 (Sp.angle e_x e_y dx dy)) (by kernel_rfl) (by kernel_rfl) (by kernel_rfl) (by kernel_rfl) (angle_in e_x e_y dx dy (by omega) (by omega) (by omega) (by omega) (by omega) (by omega) (by omega) (by omega)) (by kernel_rfl) (by kernel_rfl)) <|
            .cons (d := some 32) (by kernel_rfl) (does_int (n' := 0 - (Sp.angle e_x e_y dx dy)) (does_pure (v := .int .i64 (IntKind.wrap .i64 (0 - (Sp.angle e_x e_y dx dy)))) (by kernel_rfl) (fun w => by kernel_rfl) (by kernel_rfl)) (wrap_i64 (by omega) (by omega))) <|
            .cons (d := some 33) (by kernel_rfl) (does_bool (b' := false) (does_pure (v := .bool ((Sp.angle dx dy e_x e_y) != (0 - (Sp.angle e_x e_y dx dy)))) (by kernel_rfl) (fun w => by kernel_rfl) (by kernel_rfl)) (h1)) <|
            .cons (d := some 34) (by kernel_rfl) (does_move (x := .tmp 33) (v := .bool false) (by kernel_rfl) (by kernel_rfl)) <|
            .cons (d := some 35) (by kernel_rfl) (does_move (x := .tmp 10) (v := .int .i64 (Sp.angle dx dy e_x e_y)) (by kernel_rfl) (by kernel_rfl)) <|
            .cons (d := some 36) (by kernel_rfl) (does_bool (b' := true) (does_pure (v := .bool (decide ((Sp.angle dx dy e_x e_y) ≤ 0))) (by kernel_rfl) (fun w => by kernel_rfl) (by kernel_rfl)) (h2)) <|
            .cons (d := some 37) (by kernel_rfl) (does_move (x := .tmp 36) (v := .bool true) (by kernel_rfl) (by kernel_rfl)) <|
            .cons (d := some 38) (by kernel_rfl) (does_load (t := 24) (x := .tmp 8) (k := 2) (off := 0) (b := ⟨[.int .i64 e_x, .int .i64 e_y], 24, true, 2⟩) (v := .agg #[.int .i64 e_x, .int .i64 e_y]) (by kernel_rfl) (by kernel_rfl) (by kernel_rfl) (by kernel_rfl)) <|
            .cons (d := some 39) (by kernel_rfl) (does_load (t := 24) (x := .tmp 9) (k := 3) (off := 0) (b := ⟨[.int .i64 fx, .int .i64 fy], 24, true, 2⟩) (v := .agg #[.int .i64 fx, .int .i64 fy]) (by kernel_rfl) (by kernel_rfl) (by kernel_rfl) (by kernel_rfl)) <|
            .cons (d := some 40) (by kernel_rfl) (does_call0 (x := .func 59) (ars := #[.tmp 38, .tmp 39]) (ats := #[24, 24]) (g := 59) (vs := [.agg #[.int .i64 e_x, .int .i64 e_y], .agg #[.int .i64 fx, .int .i64 fy]]) (v := .int .i64 (Sp.angle e_x e_y fx fy)) (by kernel_rfl) (by kernel_rfl) (by kernel_rfl) (by kernel_rfl) (angle_in e_x e_y fx fy (by omega) (by omega) (by omega) (by omega) (by omega) (by omega) (by omega) (by omega)) (by kernel_rfl) (by kernel_rfl)) <|
            .cons (d := some 41) (by kernel_rfl) (does_bool (b' := false) (does_pure (v := .bool (decide ((Sp.angle e_x e_y fx fy) ≤ 0))) (by kernel_rfl) (fun w => by kernel_rfl) (by kernel_rfl)) (h3)) <|
            .cons (d := some 42) (by kernel_rfl) (does_pick (c := .tmp 37) (x := .tmp 41) (y := .const (.bool false)) (b := true) (v := .bool false) (by kernel_rfl) (by kernel_rfl) (by kernel_rfl)) <|
            .cons (d := some 43) (by kernel_rfl) (does_move (x := .tmp 42) (v := .bool false) (by kernel_rfl) (by kernel_rfl)) <|
            .cons (d := some 44) (by kernel_rfl) (does_skipB (by kernel_rfl)) <|
            .cons (d := some 45) (by kernel_rfl) (does_skipB (by kernel_rfl)) <|
            .cons (d := some 46) (by kernel_rfl) (does_skipB (by kernel_rfl)) <|
            .cons (d := some 47) (by kernel_rfl) (does_skipB (by kernel_rfl)) <|
            .cons (d := some 48) (by kernel_rfl) (does_pick (c := .tmp 43) (x := .tmp 47) (y := .const (.bool false)) (b := false) (v := .bool false) (by kernel_rfl) (by kernel_rfl) (by kernel_rfl)) <|
            .cons (d := some 49) (by kernel_rfl) (does_pick (c := .tmp 34) (x := .const (.bool true)) (y := .tmp 48) (b := false) (v := .bool false) (by kernel_rfl) (by kernel_rfl) (by kernel_rfl)) <|
            .nil _ _) ?_
        refine aw_weak (weak_b (T := [(6, .bool false), (7, .pointer (some ⟨1, 0, none⟩)), (8, .pointer (some ⟨2, 0, none⟩)), (9, .pointer (some ⟨3, 0, none⟩)), (10, .int .i64 (Sp.angle dx dy e_x e_y)), (18, .bool false), (49, .bool false)]) (L := [(1, ⟨[.int .i64 dx, .int .i64 dy], 24, true, 2⟩), (2, ⟨[.int .i64 e_x, .int .i64 e_y], 24, true, 2⟩), (3, ⟨[.int .i64 fx, .int .i64 fy], 24, true, 2⟩)]) (by kernel_rfl) (by kernel_rfl) (by kernel_rfl)) ?_
        refine aw_false (o := .tmp 49) (x := sub (bodyOf Try.f9) [true, true, true, true, false, true, false]) (y := sub (bodyOf Try.f9) [true, true, true, true, false, true, true]) (by kernel_rfl) (by kernel_rfl) ?_
        refine aw_skip (by kernel_rfl) ?_
        refine then_normal ?_
        refine aw_weak (weak_b (T := [(6, .bool false), (7, .pointer (some ⟨1, 0, none⟩)), (8, .pointer (some ⟨2, 0, none⟩)), (9, .pointer (some ⟨3, 0, none⟩)), (10, .int .i64 (Sp.angle dx dy e_x e_y)), (18, .bool false)]) (L := [(1, ⟨[.int .i64 dx, .int .i64 dy], 24, true, 2⟩), (2, ⟨[.int .i64 e_x, .int .i64 e_y], 24, true, 2⟩), (3, ⟨[.int .i64 fx, .int .i64 fy], 24, true, 2⟩)]) (by kernel_rfl) (by kernel_rfl) (by kernel_rfl)) ?_
        exact K1
    · have h2p : ¬ (((Sp.angle dx dy e_x e_y) ≤ 0)) := by first | (simpa using h2) | (have h2q := h2; simp at h2q; omega) | (have h2q := bx2 h2; simp at h2q; omega)
      refine aw_plain_seq (r := sub (bodyOf Try.f9) [true, true, true, true, false, false]) (y := sub (bodyOf Try.f9) [true, true, true, true, false, true]) (id := 5) (ops := regOps (sub (bodyOf Try.f9) [true, true, true, true, false, false])) (by kernel_rfl) (by kernel_rfl) (by kernel_rfl) (by kernel_rfl) (
          .cons (d := some 28) (by kernel_rfl) (does_move (x := .tmp 10) (v := .int .i64 (Sp.angle dx dy e_x e_y)) (by kernel_rfl) (by kernel_rfl)) <|
          .cons (d := some 29) (by kernel_rfl) (does_load (t := 24) (x := .tmp 8) (k := 2) (off := 0) (b := ⟨[.int .i64 e_x, .int .i64 e_y], 24, true, 2⟩) (v := .agg #[.int .i64 e_x, .int .i64 e_y]) (by kernel_rfl) (by kernel_rfl) (by kernel_rfl) (by kernel_rfl)) <|
          .cons (d := some 30) (by kernel_rfl) (does_load (t := 24) (x := .tmp 7) (k := 1) (off := 0) (b := ⟨[.int .i64 dx, .int .i64 dy], 24, true, 2⟩) (v := .agg #[.int .i64 dx, .int .i64 dy]) (by kernel_rfl) (by kernel_rfl) (by kernel_rfl) (by kernel_rfl)) <|
          .cons (d := some 31) (by kernel_rfl) (does_call0 (x := .func 59) (ars := #[.tmp 29, .tmp 30]) (ats := #[24, 24]) (g := 59) (vs := [.agg #[.int .i64 e_x, .int .i64 e_y], .agg #[.int .i64 dx, .int .i64 dy]]) (v := .int .i64 (Sp.angle e_x e_y dx dy)) (by kernel_rfl) (by kernel_rfl) (by kernel_rfl) (by kernel_rfl) (angle_in e_x e_y dx dy (by omega) (by omega) (by omega) (by omega) (by omega) (by omega) (by omega) (by omega)) (by kernel_rfl) (by kernel_rfl)) <|
          .cons (d := some 32) (by kernel_rfl) (does_int (n' := 0 - (Sp.angle e_x e_y dx dy)) (does_pure (v := .int .i64 (IntKind.wrap .i64 (0 - (Sp.angle e_x e_y dx dy)))) (by kernel_rfl) (fun w => by kernel_rfl) (by kernel_rfl)) (wrap_i64 (by omega) (by omega))) <|
          .cons (d := some 33) (by kernel_rfl) (does_bool (b' := false) (does_pure (v := .bool ((Sp.angle dx dy e_x e_y) != (0 - (Sp.angle e_x e_y dx dy)))) (by kernel_rfl) (fun w => by kernel_rfl) (by kernel_rfl)) (h1)) <|
          .cons (d := some 34) (by kernel_rfl) (does_move (x := .tmp 33) (v := .bool false) (by kernel_rfl) (by kernel_rfl)) <|
          .cons (d := some 35) (by kernel_rfl) (does_move (x := .tmp 10) (v := .int .i64 (Sp.angle dx dy e_x e_y)) (by kernel_rfl) (by kernel_rfl)) <|
          .cons (d := some 36) (by kernel_rfl) (does_bool (b' := false) (does_pure (v := .bool (decide ((Sp.angle dx dy e_x e_y) ≤ 0))) (by kernel_rfl) (fun w => by kernel_rfl) (by kernel_rfl)) (h2)) <|
          .cons (d := some 37) (by kernel_rfl) (does_move (x := .tmp 36) (v := .bool false) (by kernel_rfl) (by kernel_rfl)) <|
          .cons (d := some 38) (by kernel_rfl) (does_skipB (by kernel_rfl)) <|
          .cons (d := some 39) (by kernel_rfl) (does_skipB (by kernel_rfl)) <|
          .cons (d := some 40) (by kernel_rfl) (does_skipB (by kernel_rfl)) <|
          .cons (d := some 41) (by kernel_rfl) (does_skipB (by kernel_rfl)) <|
          .cons (d := some 42) (by kernel_rfl) (does_pick (c := .tmp 37) (x := .tmp 41) (y := .const (.bool false)) (b := false) (v := .bool false) (by kernel_rfl) (by kernel_rfl) (by kernel_rfl)) <|
          .cons (d := some 43) (by kernel_rfl) (does_move (x := .tmp 42) (v := .bool false) (by kernel_rfl) (by kernel_rfl)) <|
          .cons (d := some 44) (by kernel_rfl) (does_skipB (by kernel_rfl)) <|
          .cons (d := some 45) (by kernel_rfl) (does_skipB (by kernel_rfl)) <|
          .cons (d := some 46) (by kernel_rfl) (does_skipB (by kernel_rfl)) <|
          .cons (d := some 47) (by kernel_rfl) (does_skipB (by kernel_rfl)) <|
          .cons (d := some 48) (by kernel_rfl) (does_pick (c := .tmp 43) (x := .tmp 47) (y := .const (.bool false)) (b := false) (v := .bool false) (by kernel_rfl) (by kernel_rfl) (by kernel_rfl)) <|
          .cons (d := some 49) (by kernel_rfl) (does_pick (c := .tmp 34) (x := .const (.bool true)) (y := .tmp 48) (b := false) (v := .bool false) (by kernel_rfl) (by kernel_rfl) (by kernel_rfl)) <|
          .nil _ _) ?_
      refine aw_weak (weak_b (T := [(6, .bool false), (7, .pointer (some ⟨1, 0, none⟩)), (8, .pointer (some ⟨2, 0, none⟩)), (9, .pointer (some ⟨3, 0, none⟩)), (10, .int .i64 (Sp.angle dx dy e_x e_y)), (18, .bool false), (49, .bool false)]) (L := [(1, ⟨[.int .i64 dx, .int .i64 dy], 24, true, 2⟩), (2, ⟨[.int .i64 e_x, .int .i64 e_y], 24, true, 2⟩), (3, ⟨[.int .i64 fx, .int .i64 fy], 24, true, 2⟩)]) (by kernel_rfl) (by kernel_rfl) (by kernel_rfl)) ?_
      refine aw_false (o := .tmp 49) (x := sub (bodyOf Try.f9) [true, true, true, true, false, true, false]) (y := sub (bodyOf Try.f9) [true, true, true, true, false, true, true]) (by kernel_rfl) (by kernel_rfl) ?_
      refine aw_skip (by kernel_rfl) ?_
      refine then_normal ?_
      refine aw_weak (weak_b (T := [(6, .bool false), (7, .pointer (some ⟨1, 0, none⟩)), (8, .pointer (some ⟨2, 0, none⟩)), (9, .pointer (some ⟨3, 0, none⟩)), (10, .int .i64 (Sp.angle dx dy e_x e_y)), (18, .bool false)]) (L := [(1, ⟨[.int .i64 dx, .int .i64 dy], 24, true, 2⟩), (2, ⟨[.int .i64 e_x, .int .i64 e_y], 24, true, 2⟩), (3, ⟨[.int .i64 fx, .int .i64 fy], 24, true, 2⟩)]) (by kernel_rfl) (by kernel_rfl) (by kernel_rfl)) ?_
      exact K1


end Go.Proofs.Ytpfdihhlpegllaa.Am
