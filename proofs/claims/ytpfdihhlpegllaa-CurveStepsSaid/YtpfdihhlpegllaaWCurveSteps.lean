/-
  The walk of the law CurveSteps.
-/
import Derived.Test.YtpfdihhlpegllaaProg
import Derived.Test.YtpfdihhlpegllaaCv
namespace Go.Proofs.Ytpfdihhlpegllaa.Am
open Go Go.Proofs
set_option maxRecDepth 100000
set_option maxHeartbeats 4000000
set_option linter.unusedVariables false
set_option linter.unusedSimpArgs false

theorem curveSteps_walk (n x u v : Int) (hx : AC Try.prog 46 0 [.int .i64 x] [] (.agg #[.int .i64 u, .int .i64 v]) []) (b1 : -40 ≤ u) (b2 : u ≤ 40) (b3 : -40 ≤ v) (b4 : v ≤ 40) :
    AC Try.prog 12 0 ([.int .i64 n, .int .i64 x]) [] (.bool true) [] := by
  refine ac_intro (fn := Try.f12) (c := bodyOf Try.f12) Try.func12 (by kernel_rfl) (by kernel_rfl) (by kernel_rfl) ?_
  intro w0 W pin
  refine aw_sub ?_
  refine aw_plain_seq (r := sub (bodyOf Try.f12) [false]) (y := sub (bodyOf Try.f12) [true]) (id := 0) (ops := regOps (sub (bodyOf Try.f12) [false])) (by kernel_rfl) (by kernel_rfl) (by kernel_rfl) (by kernel_rfl) (
      .cons (d := some 4) (by kernel_rfl) (does_assign (x := .const (.bool false)) (v := .bool false) (by kernel_rfl) (by kernel_rfl)) <|
      .nil _ _) ?_
  refine aw_seq (x := sub (bodyOf Try.f12) [true, false]) (y := sub (bodyOf Try.f12) [true, true]) (by kernel_rfl) ?_
  refine aw_plain_seq (r := sub (bodyOf Try.f12) [true, false, false]) (y := sub (bodyOf Try.f12) [true, false, true]) (id := 1) (ops := regOps (sub (bodyOf Try.f12) [true, false, false])) (by kernel_rfl) (by kernel_rfl) (by kernel_rfl) (by kernel_rfl) (
      .cons (d := some 13) (by kernel_rfl) (does_call0 (x := .func 61) (ars := #[]) (ats := #[]) (g := 61) (vs := []) (v := .bool true) (by kernel_rfl) (by kernel_rfl) (by kernel_rfl) (by kernel_rfl) (cbegun_ok) (by kernel_rfl) (by kernel_rfl)) <|
      .cons (d := some 14) (by kernel_rfl) (does_pure (v := .bool false) (by kernel_rfl) (fun w => by kernel_rfl) (by kernel_rfl)) <|
      .nil _ _) ?_
  refine aw_false (o := .tmp 14) (x := sub (bodyOf Try.f12) [true, false, true, false]) (y := sub (bodyOf Try.f12) [true, false, true, true]) (by kernel_rfl) (by kernel_rfl) ?_
  refine aw_skip (by kernel_rfl) ?_
  refine then_normal ?_
  refine aw_plain_seq (r := sub (bodyOf Try.f12) [true, true, false]) (y := sub (bodyOf Try.f12) [true, true, true]) (id := 3) (ops := regOps (sub (bodyOf Try.f12) [true, true, false])) (by kernel_rfl) (by kernel_rfl) (by kernel_rfl) (by kernel_rfl) (
      .cons (d := some 15) (by kernel_rfl) (does_move (x := .tmp 0) (v := .int .i64 n) (by kernel_rfl) (by kernel_rfl)) <|
      .cons (d := some 16) (by kernel_rfl) (does_call0 (x := .func 62) (ars := #[.tmp 15, .const (.int .i64 17592186044415)]) (ats := #[3, 3]) (g := 62) (vs := [.int .i64 n, .int .i64 17592186044415]) (v := .int .i64 (n % 17592186044415)) (by kernel_rfl) (by kernel_rfl) (by kernel_rfl) (by kernel_rfl) (below_ok n 17592186044415 (by decide) (by decide)) (by kernel_rfl) (by kernel_rfl)) <|
      .cons (d := some 0) (by kernel_rfl) (does_assign (x := .tmp 16) (v := .int .i64 (n % 17592186044415)) (by kernel_rfl) (by kernel_rfl)) <|
      .nil _ _) ?_
  refine aw_plain_seq (r := sub (bodyOf Try.f12) [true, true, true, false]) (y := sub (bodyOf Try.f12) [true, true, true, true]) (id := 4) (ops := regOps (sub (bodyOf Try.f12) [true, true, true, false])) (by kernel_rfl) (by kernel_rfl) (by kernel_rfl) (by kernel_rfl) (
      .cons (d := some 18) (by kernel_rfl) (does_move (x := .tmp 0) (v := .int .i64 (n % 17592186044415)) (by kernel_rfl) (by kernel_rfl)) <|
      .cons (d := some 19) (by kernel_rfl) (does_call0 (x := .func 27) (ars := #[.tmp 18]) (ats := #[3]) (g := 27) (vs := [.int .i64 (n % 17592186044415)]) (v := .tuple #[.agg #[.int .i64 (Sp.ofx (n % 17592186044415)), .int .i64 (Sp.ofy (n % 17592186044415))], .int .i64 (Sp.ofe (n % 17592186044415))]) (by kernel_rfl) (by kernel_rfl) (by kernel_rfl) (by kernel_rfl) (cof_ok (n % 17592186044415)) (by kernel_rfl) (by kernel_rfl)) <|
      .cons (d := some 17) (by kernel_rfl) (does_move (x := .tmp 19) (v := .tuple #[.agg #[.int .i64 (Sp.ofx (n % 17592186044415)), .int .i64 (Sp.ofy (n % 17592186044415))], .int .i64 (Sp.ofe (n % 17592186044415))]) (by kernel_rfl) (by kernel_rfl)) <|
      .cons (d := some 20) (by kernel_rfl) (does_extract (x := .tmp 17) (n := 0) (vs := #[.agg #[.int .i64 (Sp.ofx (n % 17592186044415)), .int .i64 (Sp.ofy (n % 17592186044415))], .int .i64 (Sp.ofe (n % 17592186044415))]) (v := .agg #[.int .i64 (Sp.ofx (n % 17592186044415)), .int .i64 (Sp.ofy (n % 17592186044415))]) (by kernel_rfl) (by kernel_rfl) (by kernel_rfl)) <|
      .cons (d := some 21) (by kernel_rfl) (does_extract (x := .tmp 17) (n := 1) (vs := #[.agg #[.int .i64 (Sp.ofx (n % 17592186044415)), .int .i64 (Sp.ofy (n % 17592186044415))], .int .i64 (Sp.ofe (n % 17592186044415))]) (v := .int .i64 (Sp.ofe (n % 17592186044415))) (by kernel_rfl) (by kernel_rfl) (by kernel_rfl)) <|
      .cons (d := some 5) (by kernel_rfl) (does_alloc (t := 24) (k := 1) (v := .agg #[.int .i64 0, .int .i64 0]) (cells := [.int .i64 0, .int .i64 0]) (by kernel_rfl) (by kernel_rfl) (by kernel_rfl) (by kernel_rfl) (by kernel_rfl)) <|
      .cons (d := none) (by kernel_rfl) (does_store (t := 24) (x := .tmp 5) (y := .tmp 20) (k := 1) (off := 0) (b := ⟨[.int .i64 0, .int .i64 0], 24, true, 2⟩) (v := .agg #[.int .i64 (Sp.ofx (n % 17592186044415)), .int .i64 (Sp.ofy (n % 17592186044415))]) (cells := [.int .i64 (Sp.ofx (n % 17592186044415)), .int .i64 (Sp.ofy (n % 17592186044415))]) (by kernel_rfl) (by kernel_rfl) (by kernel_rfl) (by kernel_rfl) rfl (by kernel_rfl) (by kernel_rfl) (by kernel_rfl) (by kernel_rfl)) <|
      .cons (d := some 6) (by kernel_rfl) (does_assign (x := .tmp 21) (v := .int .i64 (Sp.ofe (n % 17592186044415))) (by kernel_rfl) (by kernel_rfl)) <|
      .nil _ _) ?_
  refine aw_plain_seq (r := sub (bodyOf Try.f12) [true, true, true, true, false]) (y := sub (bodyOf Try.f12) [true, true, true, true, true]) (id := 5) (ops := regOps (sub (bodyOf Try.f12) [true, true, true, true, false])) (by kernel_rfl) (by kernel_rfl) (by kernel_rfl) (by kernel_rfl) (
      .cons (d := some 23) (by kernel_rfl) (does_move (x := .tmp 0) (v := .int .i64 (n % 17592186044415)) (by kernel_rfl) (by kernel_rfl)) <|
      .cons (d := some 24) (by kernel_rfl) (does_int (n' := (n % 17592186044415) + 1) (does_pure (v := .int .i64 (IntKind.wrap .i64 ((n % 17592186044415) + 1))) (by kernel_rfl) (fun w => by kernel_rfl) (by kernel_rfl)) (wrap_i64 (by omega) (by omega))) <|
      .cons (d := some 25) (by kernel_rfl) (does_call0 (x := .func 27) (ars := #[.tmp 24]) (ats := #[3]) (g := 27) (vs := [.int .i64 ((n % 17592186044415) + 1)]) (v := .tuple #[.agg #[.int .i64 (Sp.ofx ((n % 17592186044415) + 1)), .int .i64 (Sp.ofy ((n % 17592186044415) + 1))], .int .i64 (Sp.ofe ((n % 17592186044415) + 1))]) (by kernel_rfl) (by kernel_rfl) (by kernel_rfl) (by kernel_rfl) (cof_ok ((n % 17592186044415) + 1)) (by kernel_rfl) (by kernel_rfl)) <|
      .cons (d := some 22) (by kernel_rfl) (does_move (x := .tmp 25) (v := .tuple #[.agg #[.int .i64 (Sp.ofx ((n % 17592186044415) + 1)), .int .i64 (Sp.ofy ((n % 17592186044415) + 1))], .int .i64 (Sp.ofe ((n % 17592186044415) + 1))]) (by kernel_rfl) (by kernel_rfl)) <|
      .cons (d := some 26) (by kernel_rfl) (does_extract (x := .tmp 22) (n := 0) (vs := #[.agg #[.int .i64 (Sp.ofx ((n % 17592186044415) + 1)), .int .i64 (Sp.ofy ((n % 17592186044415) + 1))], .int .i64 (Sp.ofe ((n % 17592186044415) + 1))]) (v := .agg #[.int .i64 (Sp.ofx ((n % 17592186044415) + 1)), .int .i64 (Sp.ofy ((n % 17592186044415) + 1))]) (by kernel_rfl) (by kernel_rfl) (by kernel_rfl)) <|
      .cons (d := some 27) (by kernel_rfl) (does_extract (x := .tmp 22) (n := 1) (vs := #[.agg #[.int .i64 (Sp.ofx ((n % 17592186044415) + 1)), .int .i64 (Sp.ofy ((n % 17592186044415) + 1))], .int .i64 (Sp.ofe ((n % 17592186044415) + 1))]) (v := .int .i64 (Sp.ofe ((n % 17592186044415) + 1))) (by kernel_rfl) (by kernel_rfl) (by kernel_rfl)) <|
      .cons (d := some 7) (by kernel_rfl) (does_alloc (t := 24) (k := 2) (v := .agg #[.int .i64 0, .int .i64 0]) (cells := [.int .i64 0, .int .i64 0]) (by kernel_rfl) (by kernel_rfl) (by kernel_rfl) (by kernel_rfl) (by kernel_rfl)) <|
      .cons (d := none) (by kernel_rfl) (does_store (t := 24) (x := .tmp 7) (y := .tmp 26) (k := 2) (off := 0) (b := ⟨[.int .i64 0, .int .i64 0], 24, true, 2⟩) (v := .agg #[.int .i64 (Sp.ofx ((n % 17592186044415) + 1)), .int .i64 (Sp.ofy ((n % 17592186044415) + 1))]) (cells := [.int .i64 (Sp.ofx ((n % 17592186044415) + 1)), .int .i64 (Sp.ofy ((n % 17592186044415) + 1))]) (by kernel_rfl) (by kernel_rfl) (by kernel_rfl) (by kernel_rfl) rfl (by kernel_rfl) (by kernel_rfl) (by kernel_rfl) (by kernel_rfl)) <|
      .cons (d := some 8) (by kernel_rfl) (does_assign (x := .tmp 27) (v := .int .i64 (Sp.ofe ((n % 17592186044415) + 1))) (by kernel_rfl) (by kernel_rfl)) <|
      .nil _ _) ?_
  refine aw_seq (x := sub (bodyOf Try.f12) [true, true, true, true, true, false]) (y := sub (bodyOf Try.f12) [true, true, true, true, true, true]) (by kernel_rfl) ?_
  rcases Bool.eq_false_or_eq_true ((Sp.ofe (n % 17592186044415)) == 0) with h1 | h1
  · have h1p : (((Sp.ofe (n % 17592186044415)) = 0)) := by first | (simpa using h1) | (have h1q := h1; simp at h1q; omega) | (have h1q := bx1 h1; simp at h1q; omega)
    rcases Bool.eq_false_or_eq_true ((Sp.ofe ((n % 17592186044415) + 1)) == 0) with h2 | h2
    · have h2p : (((Sp.ofe ((n % 17592186044415) + 1)) = 0)) := by first | (simpa using h2) | (have h2q := h2; simp at h2q; omega) | (have h2q := bx1 h2; simp at h2q; omega)
      refine aw_plain_seq (r := sub (bodyOf Try.f12) [true, true, true, true, true, false, false]) (y := sub (bodyOf Try.f12) [true, true, true, true, true, false, true]) (id := 6) (ops := regOps (sub (bodyOf Try.f12) [true, true, true, true, true, false, false])) (by kernel_rfl) (by kernel_rfl) (by kernel_rfl) (by kernel_rfl) (
          .cons (d := some 28) (by kernel_rfl) (does_move (x := .tmp 6) (v := .int .i64 (Sp.ofe (n % 17592186044415))) (by kernel_rfl) (by kernel_rfl)) <|
          .cons (d := some 29) (by kernel_rfl) (does_bool (b' := true) (does_pure (v := .bool ((Sp.ofe (n % 17592186044415)) == 0)) (by kernel_rfl) (fun w => by kernel_rfl) (by kernel_rfl)) (h1)) <|
          .cons (d := some 30) (by kernel_rfl) (does_move (x := .tmp 29) (v := .bool true) (by kernel_rfl) (by kernel_rfl)) <|
          .cons (d := some 31) (by kernel_rfl) (does_move (x := .tmp 8) (v := .int .i64 (Sp.ofe ((n % 17592186044415) + 1))) (by kernel_rfl) (by kernel_rfl)) <|
          .cons (d := some 32) (by kernel_rfl) (does_bool (b' := true) (does_pure (v := .bool ((Sp.ofe ((n % 17592186044415) + 1)) == 0)) (by kernel_rfl) (fun w => by kernel_rfl) (by kernel_rfl)) (h2)) <|
          .cons (d := some 33) (by kernel_rfl) (does_pick (c := .tmp 30) (x := .tmp 32) (y := .const (.bool false)) (b := true) (v := .bool true) (by kernel_rfl) (by kernel_rfl) (by kernel_rfl)) <|
          .cons (d := some 34) (by kernel_rfl) (does_move (x := .tmp 33) (v := .bool true) (by kernel_rfl) (by kernel_rfl)) <|
          .cons (d := some 35) (by kernel_rfl) (does_load (t := 24) (x := .tmp 5) (k := 1) (off := 0) (b := ⟨[.int .i64 (Sp.ofx (n % 17592186044415)), .int .i64 (Sp.ofy (n % 17592186044415))], 24, true, 2⟩) (v := .agg #[.int .i64 (Sp.ofx (n % 17592186044415)), .int .i64 (Sp.ofy (n % 17592186044415))]) (by kernel_rfl) (by kernel_rfl) (by kernel_rfl) (by kernel_rfl)) <|
          .cons (d := some 36) (by kernel_rfl) (does_load (t := 24) (x := .tmp 7) (k := 2) (off := 0) (b := ⟨[.int .i64 (Sp.ofx ((n % 17592186044415) + 1)), .int .i64 (Sp.ofy ((n % 17592186044415) + 1))], 24, true, 2⟩) (v := .agg #[.int .i64 (Sp.ofx ((n % 17592186044415) + 1)), .int .i64 (Sp.ofy ((n % 17592186044415) + 1))]) (by kernel_rfl) (by kernel_rfl) (by kernel_rfl) (by kernel_rfl)) <|
          .cons (d := some 37) (by kernel_rfl) (does_call0 (x := .func 41) (ars := #[.tmp 35, .tmp 36]) (ats := #[24, 24]) (g := 41) (vs := [.agg #[.int .i64 (Sp.ofx (n % 17592186044415)), .int .i64 (Sp.ofy (n % 17592186044415))], .agg #[.int .i64 (Sp.ofx ((n % 17592186044415) + 1)), .int .i64 (Sp.ofy ((n % 17592186044415) + 1))]]) (v := .int .i64 (Sp.dot (Sp.lim 1048576 (Sp.ofx (n % 17592186044415))) (Sp.lim 1048576 (Sp.ofy (n % 17592186044415))) (Sp.lim 1048576 (Sp.ofx ((n % 17592186044415) + 1))) (Sp.lim 1048576 (Sp.ofy ((n % 17592186044415) + 1))) (Sp.lim 1048576 (Sp.ofx ((n % 17592186044415) + 1))) (Sp.lim 1048576 (Sp.ofy ((n % 17592186044415) + 1))))) (by kernel_rfl) (by kernel_rfl) (by kernel_rfl) (by kernel_rfl) (sq_ok (Sp.ofx (n % 17592186044415)) (Sp.ofy (n % 17592186044415)) (Sp.ofx ((n % 17592186044415) + 1)) (Sp.ofy ((n % 17592186044415) + 1))) (by kernel_rfl) (by kernel_rfl)) <|
          .cons (d := some 38) (by kernel_rfl) (does_bool (b' := false) (does_pure (v := .bool ((Sp.dot (Sp.lim 1048576 (Sp.ofx (n % 17592186044415))) (Sp.lim 1048576 (Sp.ofy (n % 17592186044415))) (Sp.lim 1048576 (Sp.ofx ((n % 17592186044415) + 1))) (Sp.lim 1048576 (Sp.ofy ((n % 17592186044415) + 1))) (Sp.lim 1048576 (Sp.ofx ((n % 17592186044415) + 1))) (Sp.lim 1048576 (Sp.ofy ((n % 17592186044415) + 1)))) != 1)) (by kernel_rfl) (fun w => by kernel_rfl) (by kernel_rfl)) (by rw [Sp.of_step (by simpa using ‹(Sp.ofe (n % 17592186044415) == 0) = true›) (by simpa using ‹(Sp.ofe (n % 17592186044415 + 1) == 0) = true›)]; rfl)) <|
          .cons (d := some 39) (by kernel_rfl) (does_pick (c := .tmp 34) (x := .tmp 38) (y := .const (.bool false)) (b := true) (v := .bool false) (by kernel_rfl) (by kernel_rfl) (by kernel_rfl)) <|
          .nil _ _) ?_
      refine aw_false (o := .tmp 39) (x := sub (bodyOf Try.f12) [true, true, true, true, true, false, true, false]) (y := sub (bodyOf Try.f12) [true, true, true, true, true, false, true, true]) (by kernel_rfl) (by kernel_rfl) ?_
      refine aw_skip (by kernel_rfl) ?_
      refine then_normal ?_
      refine aw_plain_seq (r := sub (bodyOf Try.f12) [true, true, true, true, true, true, false]) (y := sub (bodyOf Try.f12) [true, true, true, true, true, true, true]) (id := 8) (ops := regOps (sub (bodyOf Try.f12) [true, true, true, true, true, true, false])) (by kernel_rfl) (by kernel_rfl) (by kernel_rfl) (by kernel_rfl) (
          .cons (d := some 40) (by kernel_rfl) (does_move (x := .tmp 1) (v := .int .i64 x) (by kernel_rfl) (by kernel_rfl)) <|
          .cons (d := some 41) (by kernel_rfl) (does_call0 (x := .func 46) (ars := #[.tmp 40]) (ats := #[3]) (g := 46) (vs := [.int .i64 x]) (v := .agg #[.int .i64 u, .int .i64 v]) (by kernel_rfl) (by kernel_rfl) (by kernel_rfl) (by kernel_rfl) (hx) (by kernel_rfl) (by kernel_rfl)) <|
          .cons (d := some 9) (by kernel_rfl) (does_alloc (t := 24) (k := 3) (v := .agg #[.int .i64 0, .int .i64 0]) (cells := [.int .i64 0, .int .i64 0]) (by kernel_rfl) (by kernel_rfl) (by kernel_rfl) (by kernel_rfl) (by kernel_rfl)) <|
          .cons (d := none) (by kernel_rfl) (does_store (t := 24) (x := .tmp 9) (y := .tmp 41) (k := 3) (off := 0) (b := ⟨[.int .i64 0, .int .i64 0], 24, true, 2⟩) (v := .agg #[.int .i64 u, .int .i64 v]) (cells := [.int .i64 u, .int .i64 v]) (by kernel_rfl) (by kernel_rfl) (by kernel_rfl) (by kernel_rfl) rfl (by kernel_rfl) (by kernel_rfl) (by kernel_rfl) (by kernel_rfl)) <|
          .nil _ _) ?_
      refine aw_plain_seq (r := sub (bodyOf Try.f12) [true, true, true, true, true, true, true, false]) (y := sub (bodyOf Try.f12) [true, true, true, true, true, true, true, true]) (id := 9) (ops := regOps (sub (bodyOf Try.f12) [true, true, true, true, true, true, true, false])) (by kernel_rfl) (by kernel_rfl) (by kernel_rfl) (by kernel_rfl) (
          .cons (d := some 42) (by kernel_rfl) (does_load (t := 24) (x := .tmp 9) (k := 3) (off := 0) (b := ⟨[.int .i64 u, .int .i64 v], 24, true, 2⟩) (v := .agg #[.int .i64 u, .int .i64 v]) (by kernel_rfl) (by kernel_rfl) (by kernel_rfl) (by kernel_rfl)) <|
          .cons (d := some 43) (by kernel_rfl) (does_call0 (x := .func 26) (ars := #[.tmp 42]) (ats := #[24]) (g := 26) (vs := [.agg #[.int .i64 u, .int .i64 v]]) (v := .int .i64 (Sp.index u v)) (by kernel_rfl) (by kernel_rfl) (by kernel_rfl) (by kernel_rfl) (cindex_ok u v) (by kernel_rfl) (by kernel_rfl)) <|
          .cons (d := some 10) (by kernel_rfl) (does_assign (x := .tmp 43) (v := .int .i64 (Sp.index u v)) (by kernel_rfl) (by kernel_rfl)) <|
          .nil _ _) ?_
      refine aw_plain_seq (r := sub (bodyOf Try.f12) [true, true, true, true, true, true, true, true, false]) (y := sub (bodyOf Try.f12) [true, true, true, true, true, true, true, true, true]) (id := 10) (ops := regOps (sub (bodyOf Try.f12) [true, true, true, true, true, true, true, true, false])) (by kernel_rfl) (by kernel_rfl) (by kernel_rfl) (by kernel_rfl) (
          .cons (d := some 45) (by kernel_rfl) (does_move (x := .tmp 10) (v := .int .i64 (Sp.index u v)) (by kernel_rfl) (by kernel_rfl)) <|
          .cons (d := some 46) (by kernel_rfl) (does_call0 (x := .func 27) (ars := #[.tmp 45]) (ats := #[3]) (g := 27) (vs := [.int .i64 (Sp.index u v)]) (v := .tuple #[.agg #[.int .i64 (Sp.ofx (Sp.index u v)), .int .i64 (Sp.ofy (Sp.index u v))], .int .i64 (Sp.ofe (Sp.index u v))]) (by kernel_rfl) (by kernel_rfl) (by kernel_rfl) (by kernel_rfl) (cof_ok (Sp.index u v)) (by kernel_rfl) (by kernel_rfl)) <|
          .cons (d := some 44) (by kernel_rfl) (does_move (x := .tmp 46) (v := .tuple #[.agg #[.int .i64 (Sp.ofx (Sp.index u v)), .int .i64 (Sp.ofy (Sp.index u v))], .int .i64 (Sp.ofe (Sp.index u v))]) (by kernel_rfl) (by kernel_rfl)) <|
          .cons (d := some 47) (by kernel_rfl) (does_extract (x := .tmp 44) (n := 0) (vs := #[.agg #[.int .i64 (Sp.ofx (Sp.index u v)), .int .i64 (Sp.ofy (Sp.index u v))], .int .i64 (Sp.ofe (Sp.index u v))]) (v := .agg #[.int .i64 (Sp.ofx (Sp.index u v)), .int .i64 (Sp.ofy (Sp.index u v))]) (by kernel_rfl) (by kernel_rfl) (by kernel_rfl)) <|
          .cons (d := some 48) (by kernel_rfl) (does_extract (x := .tmp 44) (n := 1) (vs := #[.agg #[.int .i64 (Sp.ofx (Sp.index u v)), .int .i64 (Sp.ofy (Sp.index u v))], .int .i64 (Sp.ofe (Sp.index u v))]) (v := .int .i64 (Sp.ofe (Sp.index u v))) (by kernel_rfl) (by kernel_rfl) (by kernel_rfl)) <|
          .cons (d := some 11) (by kernel_rfl) (does_alloc (t := 24) (k := 4) (v := .agg #[.int .i64 0, .int .i64 0]) (cells := [.int .i64 0, .int .i64 0]) (by kernel_rfl) (by kernel_rfl) (by kernel_rfl) (by kernel_rfl) (by kernel_rfl)) <|
          .cons (d := none) (by kernel_rfl) (does_store (t := 24) (x := .tmp 11) (y := .tmp 47) (k := 4) (off := 0) (b := ⟨[.int .i64 0, .int .i64 0], 24, true, 2⟩) (v := .agg #[.int .i64 (Sp.ofx (Sp.index u v)), .int .i64 (Sp.ofy (Sp.index u v))]) (cells := [.int .i64 (Sp.ofx (Sp.index u v)), .int .i64 (Sp.ofy (Sp.index u v))]) (by kernel_rfl) (by kernel_rfl) (by kernel_rfl) (by kernel_rfl) rfl (by kernel_rfl) (by kernel_rfl) (by kernel_rfl) (by kernel_rfl)) <|
          .cons (d := some 12) (by kernel_rfl) (does_assign (x := .tmp 48) (v := .int .i64 (Sp.ofe (Sp.index u v))) (by kernel_rfl) (by kernel_rfl)) <|
          .nil _ _) ?_
      refine aw_plain_seq (r := sub (bodyOf Try.f12) [true, true, true, true, true, true, true, true, true, false]) (y := sub (bodyOf Try.f12) [true, true, true, true, true, true, true, true, true, true]) (id := 11) (ops := regOps (sub (bodyOf Try.f12) [true, true, true, true, true, true, true, true, true, false])) (by kernel_rfl) (by kernel_rfl) (by kernel_rfl) (by kernel_rfl) (
          .cons (d := some 49) (by kernel_rfl) (does_move (x := .tmp 12) (v := .int .i64 (Sp.ofe (Sp.index u v))) (by kernel_rfl) (by kernel_rfl)) <|
          .cons (d := some 50) (by kernel_rfl) (does_bool (b' := true) (does_pure (v := .bool ((Sp.ofe (Sp.index u v)) == 0)) (by kernel_rfl) (fun w => by kernel_rfl) (by kernel_rfl)) (by rw [(Sp.of_index u v).1]; rfl)) <|
          .cons (d := some 51) (by kernel_rfl) (does_move (x := .tmp 50) (v := .bool true) (by kernel_rfl) (by kernel_rfl)) <|
          .cons (d := some 52) (by kernel_rfl) (does_load (t := 24) (x := .tmp 11) (k := 4) (off := 0) (b := ⟨[.int .i64 (Sp.ofx (Sp.index u v)), .int .i64 (Sp.ofy (Sp.index u v))], 24, true, 2⟩) (v := .agg #[.int .i64 (Sp.ofx (Sp.index u v)), .int .i64 (Sp.ofy (Sp.index u v))]) (by kernel_rfl) (by kernel_rfl) (by kernel_rfl) (by kernel_rfl)) <|
          .cons (d := some 53) (by kernel_rfl) (does_load (t := 24) (x := .tmp 9) (k := 3) (off := 0) (b := ⟨[.int .i64 u, .int .i64 v], 24, true, 2⟩) (v := .agg #[.int .i64 u, .int .i64 v]) (by kernel_rfl) (by kernel_rfl) (by kernel_rfl) (by kernel_rfl)) <|
          .cons (d := some 54) (by kernel_rfl) (does_bool (b' := true) (does_eql (t := 24) (t2 := 24) (x := .tmp 52) (y := .tmp 53) (xs := #[.int .i64 (Sp.ofx (Sp.index u v)), .int .i64 (Sp.ofy (Sp.index u v))]) (ys := #[.int .i64 u, .int .i64 v]) (b := (((Sp.ofx (Sp.index u v)) == u) && (((Sp.ofy (Sp.index u v)) == v) && true))) (by kernel_rfl) (by kernel_rfl) (by kernel_rfl) (by kernel_rfl) (by kernel_rfl) (by kernel_rfl) (by kernel_rfl)) (by rw [(Sp.of_index u v).2.1, (Sp.of_index u v).2.2, Sp.lim_id (by omega) (by omega), Sp.lim_id (by omega) (by omega)]; simp)) <|
          .cons (d := some 55) (by kernel_rfl) (does_pick (c := .tmp 51) (x := .tmp 54) (y := .const (.bool false)) (b := true) (v := .bool true) (by kernel_rfl) (by kernel_rfl) (by kernel_rfl)) <|
          .cons (d := some 56) (by kernel_rfl) (does_move (x := .tmp 55) (v := .bool true) (by kernel_rfl) (by kernel_rfl)) <|
          .cons (d := some 57) (by kernel_rfl) (does_move (x := .tmp 6) (v := .int .i64 (Sp.ofe (n % 17592186044415))) (by kernel_rfl) (by kernel_rfl)) <|
          .cons (d := some 58) (by kernel_rfl) (does_bool (b' := true) (does_pure (v := .bool ((Sp.ofe (n % 17592186044415)) == 0)) (by kernel_rfl) (fun w => by kernel_rfl) (by kernel_rfl)) (h1)) <|
          .cons (d := some 59) (by kernel_rfl) (does_move (x := .tmp 58) (v := .bool true) (by kernel_rfl) (by kernel_rfl)) <|
          .cons (d := some 60) (by kernel_rfl) (does_load (t := 24) (x := .tmp 5) (k := 1) (off := 0) (b := ⟨[.int .i64 (Sp.ofx (n % 17592186044415)), .int .i64 (Sp.ofy (n % 17592186044415))], 24, true, 2⟩) (v := .agg #[.int .i64 (Sp.ofx (n % 17592186044415)), .int .i64 (Sp.ofy (n % 17592186044415))]) (by kernel_rfl) (by kernel_rfl) (by kernel_rfl) (by kernel_rfl)) <|
          .cons (d := some 61) (by kernel_rfl) (does_call0 (x := .func 26) (ars := #[.tmp 60]) (ats := #[24]) (g := 26) (vs := [.agg #[.int .i64 (Sp.ofx (n % 17592186044415)), .int .i64 (Sp.ofy (n % 17592186044415))]]) (v := .int .i64 (Sp.index (Sp.ofx (n % 17592186044415)) (Sp.ofy (n % 17592186044415)))) (by kernel_rfl) (by kernel_rfl) (by kernel_rfl) (by kernel_rfl) (cindex_ok (Sp.ofx (n % 17592186044415)) (Sp.ofy (n % 17592186044415))) (by kernel_rfl) (by kernel_rfl)) <|
          .cons (d := some 62) (by kernel_rfl) (does_move (x := .tmp 0) (v := .int .i64 (n % 17592186044415)) (by kernel_rfl) (by kernel_rfl)) <|
          .cons (d := some 63) (by kernel_rfl) (does_bool (b' := true) (does_pure (v := .bool ((Sp.index (Sp.ofx (n % 17592186044415)) (Sp.ofy (n % 17592186044415))) == (n % 17592186044415))) (by kernel_rfl) (fun w => by kernel_rfl) (by kernel_rfl)) (by rw [Sp.index_of (by simpa using ‹(Sp.ofe (n % 17592186044415) == 0) = true›)]; simp)) <|
          .cons (d := some 64) (by kernel_rfl) (does_pick (c := .tmp 59) (x := .tmp 63) (y := .const (.bool false)) (b := true) (v := .bool true) (by kernel_rfl) (by kernel_rfl) (by kernel_rfl)) <|
          .cons (d := some 65) (by kernel_rfl) (does_move (x := .tmp 64) (v := .bool true) (by kernel_rfl) (by kernel_rfl)) <|
          .cons (d := some 66) (by kernel_rfl) (does_skipB (by kernel_rfl)) <|
          .cons (d := some 67) (by kernel_rfl) (does_skipB (by kernel_rfl)) <|
          .cons (d := some 68) (by kernel_rfl) (does_pick (c := .tmp 65) (x := .const (.bool true)) (y := .tmp 67) (b := true) (v := .bool true) (by kernel_rfl) (by kernel_rfl) (by kernel_rfl)) <|
          .cons (d := some 69) (by kernel_rfl) (does_pick (c := .tmp 56) (x := .tmp 68) (y := .const (.bool false)) (b := true) (v := .bool true) (by kernel_rfl) (by kernel_rfl) (by kernel_rfl)) <|
          .cons (d := some 4) (by kernel_rfl) (does_assign (x := .tmp 69) (v := .bool true) (by kernel_rfl) (by kernel_rfl)) <|
          .nil _ _) ?_
      refine aw_ret (by kernel_rfl) ?_
      exact end_ret (vs := [.bool true]) (by kernel_rfl) (by kernel_rfl) trivial
    · have h2p : ¬ (((Sp.ofe ((n % 17592186044415) + 1)) = 0)) := by first | (simpa using h2) | (have h2q := h2; simp at h2q; omega) | (have h2q := bx2 h2; simp at h2q; omega)
      refine aw_plain_seq (r := sub (bodyOf Try.f12) [true, true, true, true, true, false, false]) (y := sub (bodyOf Try.f12) [true, true, true, true, true, false, true]) (id := 6) (ops := regOps (sub (bodyOf Try.f12) [true, true, true, true, true, false, false])) (by kernel_rfl) (by kernel_rfl) (by kernel_rfl) (by kernel_rfl) (
          .cons (d := some 28) (by kernel_rfl) (does_move (x := .tmp 6) (v := .int .i64 (Sp.ofe (n % 17592186044415))) (by kernel_rfl) (by kernel_rfl)) <|
          .cons (d := some 29) (by kernel_rfl) (does_bool (b' := true) (does_pure (v := .bool ((Sp.ofe (n % 17592186044415)) == 0)) (by kernel_rfl) (fun w => by kernel_rfl) (by kernel_rfl)) (h1)) <|
          .cons (d := some 30) (by kernel_rfl) (does_move (x := .tmp 29) (v := .bool true) (by kernel_rfl) (by kernel_rfl)) <|
          .cons (d := some 31) (by kernel_rfl) (does_move (x := .tmp 8) (v := .int .i64 (Sp.ofe ((n % 17592186044415) + 1))) (by kernel_rfl) (by kernel_rfl)) <|
          .cons (d := some 32) (by kernel_rfl) (does_bool (b' := false) (does_pure (v := .bool ((Sp.ofe ((n % 17592186044415) + 1)) == 0)) (by kernel_rfl) (fun w => by kernel_rfl) (by kernel_rfl)) (h2)) <|
          .cons (d := some 33) (by kernel_rfl) (does_pick (c := .tmp 30) (x := .tmp 32) (y := .const (.bool false)) (b := true) (v := .bool false) (by kernel_rfl) (by kernel_rfl) (by kernel_rfl)) <|
          .cons (d := some 34) (by kernel_rfl) (does_move (x := .tmp 33) (v := .bool false) (by kernel_rfl) (by kernel_rfl)) <|
          .cons (d := some 35) (by kernel_rfl) (does_skipB (by kernel_rfl)) <|
          .cons (d := some 36) (by kernel_rfl) (does_skipB (by kernel_rfl)) <|
          .cons (d := some 37) (by kernel_rfl) (does_skipB (by kernel_rfl)) <|
          .cons (d := some 38) (by kernel_rfl) (does_skipB (by kernel_rfl)) <|
          .cons (d := some 39) (by kernel_rfl) (does_pick (c := .tmp 34) (x := .tmp 38) (y := .const (.bool false)) (b := false) (v := .bool false) (by kernel_rfl) (by kernel_rfl) (by kernel_rfl)) <|
          .nil _ _) ?_
      refine aw_false (o := .tmp 39) (x := sub (bodyOf Try.f12) [true, true, true, true, true, false, true, false]) (y := sub (bodyOf Try.f12) [true, true, true, true, true, false, true, true]) (by kernel_rfl) (by kernel_rfl) ?_
      refine aw_skip (by kernel_rfl) ?_
      refine then_normal ?_
      refine aw_plain_seq (r := sub (bodyOf Try.f12) [true, true, true, true, true, true, false]) (y := sub (bodyOf Try.f12) [true, true, true, true, true, true, true]) (id := 8) (ops := regOps (sub (bodyOf Try.f12) [true, true, true, true, true, true, false])) (by kernel_rfl) (by kernel_rfl) (by kernel_rfl) (by kernel_rfl) (
          .cons (d := some 40) (by kernel_rfl) (does_move (x := .tmp 1) (v := .int .i64 x) (by kernel_rfl) (by kernel_rfl)) <|
          .cons (d := some 41) (by kernel_rfl) (does_call0 (x := .func 46) (ars := #[.tmp 40]) (ats := #[3]) (g := 46) (vs := [.int .i64 x]) (v := .agg #[.int .i64 u, .int .i64 v]) (by kernel_rfl) (by kernel_rfl) (by kernel_rfl) (by kernel_rfl) (hx) (by kernel_rfl) (by kernel_rfl)) <|
          .cons (d := some 9) (by kernel_rfl) (does_alloc (t := 24) (k := 3) (v := .agg #[.int .i64 0, .int .i64 0]) (cells := [.int .i64 0, .int .i64 0]) (by kernel_rfl) (by kernel_rfl) (by kernel_rfl) (by kernel_rfl) (by kernel_rfl)) <|
          .cons (d := none) (by kernel_rfl) (does_store (t := 24) (x := .tmp 9) (y := .tmp 41) (k := 3) (off := 0) (b := ⟨[.int .i64 0, .int .i64 0], 24, true, 2⟩) (v := .agg #[.int .i64 u, .int .i64 v]) (cells := [.int .i64 u, .int .i64 v]) (by kernel_rfl) (by kernel_rfl) (by kernel_rfl) (by kernel_rfl) rfl (by kernel_rfl) (by kernel_rfl) (by kernel_rfl) (by kernel_rfl)) <|
          .nil _ _) ?_
      refine aw_plain_seq (r := sub (bodyOf Try.f12) [true, true, true, true, true, true, true, false]) (y := sub (bodyOf Try.f12) [true, true, true, true, true, true, true, true]) (id := 9) (ops := regOps (sub (bodyOf Try.f12) [true, true, true, true, true, true, true, false])) (by kernel_rfl) (by kernel_rfl) (by kernel_rfl) (by kernel_rfl) (
          .cons (d := some 42) (by kernel_rfl) (does_load (t := 24) (x := .tmp 9) (k := 3) (off := 0) (b := ⟨[.int .i64 u, .int .i64 v], 24, true, 2⟩) (v := .agg #[.int .i64 u, .int .i64 v]) (by kernel_rfl) (by kernel_rfl) (by kernel_rfl) (by kernel_rfl)) <|
          .cons (d := some 43) (by kernel_rfl) (does_call0 (x := .func 26) (ars := #[.tmp 42]) (ats := #[24]) (g := 26) (vs := [.agg #[.int .i64 u, .int .i64 v]]) (v := .int .i64 (Sp.index u v)) (by kernel_rfl) (by kernel_rfl) (by kernel_rfl) (by kernel_rfl) (cindex_ok u v) (by kernel_rfl) (by kernel_rfl)) <|
          .cons (d := some 10) (by kernel_rfl) (does_assign (x := .tmp 43) (v := .int .i64 (Sp.index u v)) (by kernel_rfl) (by kernel_rfl)) <|
          .nil _ _) ?_
      refine aw_plain_seq (r := sub (bodyOf Try.f12) [true, true, true, true, true, true, true, true, false]) (y := sub (bodyOf Try.f12) [true, true, true, true, true, true, true, true, true]) (id := 10) (ops := regOps (sub (bodyOf Try.f12) [true, true, true, true, true, true, true, true, false])) (by kernel_rfl) (by kernel_rfl) (by kernel_rfl) (by kernel_rfl) (
          .cons (d := some 45) (by kernel_rfl) (does_move (x := .tmp 10) (v := .int .i64 (Sp.index u v)) (by kernel_rfl) (by kernel_rfl)) <|
          .cons (d := some 46) (by kernel_rfl) (does_call0 (x := .func 27) (ars := #[.tmp 45]) (ats := #[3]) (g := 27) (vs := [.int .i64 (Sp.index u v)]) (v := .tuple #[.agg #[.int .i64 (Sp.ofx (Sp.index u v)), .int .i64 (Sp.ofy (Sp.index u v))], .int .i64 (Sp.ofe (Sp.index u v))]) (by kernel_rfl) (by kernel_rfl) (by kernel_rfl) (by kernel_rfl) (cof_ok (Sp.index u v)) (by kernel_rfl) (by kernel_rfl)) <|
          .cons (d := some 44) (by kernel_rfl) (does_move (x := .tmp 46) (v := .tuple #[.agg #[.int .i64 (Sp.ofx (Sp.index u v)), .int .i64 (Sp.ofy (Sp.index u v))], .int .i64 (Sp.ofe (Sp.index u v))]) (by kernel_rfl) (by kernel_rfl)) <|
          .cons (d := some 47) (by kernel_rfl) (does_extract (x := .tmp 44) (n := 0) (vs := #[.agg #[.int .i64 (Sp.ofx (Sp.index u v)), .int .i64 (Sp.ofy (Sp.index u v))], .int .i64 (Sp.ofe (Sp.index u v))]) (v := .agg #[.int .i64 (Sp.ofx (Sp.index u v)), .int .i64 (Sp.ofy (Sp.index u v))]) (by kernel_rfl) (by kernel_rfl) (by kernel_rfl)) <|
          .cons (d := some 48) (by kernel_rfl) (does_extract (x := .tmp 44) (n := 1) (vs := #[.agg #[.int .i64 (Sp.ofx (Sp.index u v)), .int .i64 (Sp.ofy (Sp.index u v))], .int .i64 (Sp.ofe (Sp.index u v))]) (v := .int .i64 (Sp.ofe (Sp.index u v))) (by kernel_rfl) (by kernel_rfl) (by kernel_rfl)) <|
          .cons (d := some 11) (by kernel_rfl) (does_alloc (t := 24) (k := 4) (v := .agg #[.int .i64 0, .int .i64 0]) (cells := [.int .i64 0, .int .i64 0]) (by kernel_rfl) (by kernel_rfl) (by kernel_rfl) (by kernel_rfl) (by kernel_rfl)) <|
          .cons (d := none) (by kernel_rfl) (does_store (t := 24) (x := .tmp 11) (y := .tmp 47) (k := 4) (off := 0) (b := ⟨[.int .i64 0, .int .i64 0], 24, true, 2⟩) (v := .agg #[.int .i64 (Sp.ofx (Sp.index u v)), .int .i64 (Sp.ofy (Sp.index u v))]) (cells := [.int .i64 (Sp.ofx (Sp.index u v)), .int .i64 (Sp.ofy (Sp.index u v))]) (by kernel_rfl) (by kernel_rfl) (by kernel_rfl) (by kernel_rfl) rfl (by kernel_rfl) (by kernel_rfl) (by kernel_rfl) (by kernel_rfl)) <|
          .cons (d := some 12) (by kernel_rfl) (does_assign (x := .tmp 48) (v := .int .i64 (Sp.ofe (Sp.index u v))) (by kernel_rfl) (by kernel_rfl)) <|
          .nil _ _) ?_
      refine aw_plain_seq (r := sub (bodyOf Try.f12) [true, true, true, true, true, true, true, true, true, false]) (y := sub (bodyOf Try.f12) [true, true, true, true, true, true, true, true, true, true]) (id := 11) (ops := regOps (sub (bodyOf Try.f12) [true, true, true, true, true, true, true, true, true, false])) (by kernel_rfl) (by kernel_rfl) (by kernel_rfl) (by kernel_rfl) (
          .cons (d := some 49) (by kernel_rfl) (does_move (x := .tmp 12) (v := .int .i64 (Sp.ofe (Sp.index u v))) (by kernel_rfl) (by kernel_rfl)) <|
          .cons (d := some 50) (by kernel_rfl) (does_bool (b' := true) (does_pure (v := .bool ((Sp.ofe (Sp.index u v)) == 0)) (by kernel_rfl) (fun w => by kernel_rfl) (by kernel_rfl)) (by rw [(Sp.of_index u v).1]; rfl)) <|
          .cons (d := some 51) (by kernel_rfl) (does_move (x := .tmp 50) (v := .bool true) (by kernel_rfl) (by kernel_rfl)) <|
          .cons (d := some 52) (by kernel_rfl) (does_load (t := 24) (x := .tmp 11) (k := 4) (off := 0) (b := ⟨[.int .i64 (Sp.ofx (Sp.index u v)), .int .i64 (Sp.ofy (Sp.index u v))], 24, true, 2⟩) (v := .agg #[.int .i64 (Sp.ofx (Sp.index u v)), .int .i64 (Sp.ofy (Sp.index u v))]) (by kernel_rfl) (by kernel_rfl) (by kernel_rfl) (by kernel_rfl)) <|
          .cons (d := some 53) (by kernel_rfl) (does_load (t := 24) (x := .tmp 9) (k := 3) (off := 0) (b := ⟨[.int .i64 u, .int .i64 v], 24, true, 2⟩) (v := .agg #[.int .i64 u, .int .i64 v]) (by kernel_rfl) (by kernel_rfl) (by kernel_rfl) (by kernel_rfl)) <|
          .cons (d := some 54) (by kernel_rfl) (does_bool (b' := true) (does_eql (t := 24) (t2 := 24) (x := .tmp 52) (y := .tmp 53) (xs := #[.int .i64 (Sp.ofx (Sp.index u v)), .int .i64 (Sp.ofy (Sp.index u v))]) (ys := #[.int .i64 u, .int .i64 v]) (b := (((Sp.ofx (Sp.index u v)) == u) && (((Sp.ofy (Sp.index u v)) == v) && true))) (by kernel_rfl) (by kernel_rfl) (by kernel_rfl) (by kernel_rfl) (by kernel_rfl) (by kernel_rfl) (by kernel_rfl)) (by rw [(Sp.of_index u v).2.1, (Sp.of_index u v).2.2, Sp.lim_id (by omega) (by omega), Sp.lim_id (by omega) (by omega)]; simp)) <|
          .cons (d := some 55) (by kernel_rfl) (does_pick (c := .tmp 51) (x := .tmp 54) (y := .const (.bool false)) (b := true) (v := .bool true) (by kernel_rfl) (by kernel_rfl) (by kernel_rfl)) <|
          .cons (d := some 56) (by kernel_rfl) (does_move (x := .tmp 55) (v := .bool true) (by kernel_rfl) (by kernel_rfl)) <|
          .cons (d := some 57) (by kernel_rfl) (does_move (x := .tmp 6) (v := .int .i64 (Sp.ofe (n % 17592186044415))) (by kernel_rfl) (by kernel_rfl)) <|
          .cons (d := some 58) (by kernel_rfl) (does_bool (b' := true) (does_pure (v := .bool ((Sp.ofe (n % 17592186044415)) == 0)) (by kernel_rfl) (fun w => by kernel_rfl) (by kernel_rfl)) (h1)) <|
          .cons (d := some 59) (by kernel_rfl) (does_move (x := .tmp 58) (v := .bool true) (by kernel_rfl) (by kernel_rfl)) <|
          .cons (d := some 60) (by kernel_rfl) (does_load (t := 24) (x := .tmp 5) (k := 1) (off := 0) (b := ⟨[.int .i64 (Sp.ofx (n % 17592186044415)), .int .i64 (Sp.ofy (n % 17592186044415))], 24, true, 2⟩) (v := .agg #[.int .i64 (Sp.ofx (n % 17592186044415)), .int .i64 (Sp.ofy (n % 17592186044415))]) (by kernel_rfl) (by kernel_rfl) (by kernel_rfl) (by kernel_rfl)) <|
          .cons (d := some 61) (by kernel_rfl) (does_call0 (x := .func 26) (ars := #[.tmp 60]) (ats := #[24]) (g := 26) (vs := [.agg #[.int .i64 (Sp.ofx (n % 17592186044415)), .int .i64 (Sp.ofy (n % 17592186044415))]]) (v := .int .i64 (Sp.index (Sp.ofx (n % 17592186044415)) (Sp.ofy (n % 17592186044415)))) (by kernel_rfl) (by kernel_rfl) (by kernel_rfl) (by kernel_rfl) (cindex_ok (Sp.ofx (n % 17592186044415)) (Sp.ofy (n % 17592186044415))) (by kernel_rfl) (by kernel_rfl)) <|
          .cons (d := some 62) (by kernel_rfl) (does_move (x := .tmp 0) (v := .int .i64 (n % 17592186044415)) (by kernel_rfl) (by kernel_rfl)) <|
          .cons (d := some 63) (by kernel_rfl) (does_bool (b' := true) (does_pure (v := .bool ((Sp.index (Sp.ofx (n % 17592186044415)) (Sp.ofy (n % 17592186044415))) == (n % 17592186044415))) (by kernel_rfl) (fun w => by kernel_rfl) (by kernel_rfl)) (by rw [Sp.index_of (by simpa using ‹(Sp.ofe (n % 17592186044415) == 0) = true›)]; simp)) <|
          .cons (d := some 64) (by kernel_rfl) (does_pick (c := .tmp 59) (x := .tmp 63) (y := .const (.bool false)) (b := true) (v := .bool true) (by kernel_rfl) (by kernel_rfl) (by kernel_rfl)) <|
          .cons (d := some 65) (by kernel_rfl) (does_move (x := .tmp 64) (v := .bool true) (by kernel_rfl) (by kernel_rfl)) <|
          .cons (d := some 66) (by kernel_rfl) (does_skipB (by kernel_rfl)) <|
          .cons (d := some 67) (by kernel_rfl) (does_skipB (by kernel_rfl)) <|
          .cons (d := some 68) (by kernel_rfl) (does_pick (c := .tmp 65) (x := .const (.bool true)) (y := .tmp 67) (b := true) (v := .bool true) (by kernel_rfl) (by kernel_rfl) (by kernel_rfl)) <|
          .cons (d := some 69) (by kernel_rfl) (does_pick (c := .tmp 56) (x := .tmp 68) (y := .const (.bool false)) (b := true) (v := .bool true) (by kernel_rfl) (by kernel_rfl) (by kernel_rfl)) <|
          .cons (d := some 4) (by kernel_rfl) (does_assign (x := .tmp 69) (v := .bool true) (by kernel_rfl) (by kernel_rfl)) <|
          .nil _ _) ?_
      refine aw_ret (by kernel_rfl) ?_
      exact end_ret (vs := [.bool true]) (by kernel_rfl) (by kernel_rfl) trivial
  · have h1p : ¬ (((Sp.ofe (n % 17592186044415)) = 0)) := by first | (simpa using h1) | (have h1q := h1; simp at h1q; omega) | (have h1q := bx2 h1; simp at h1q; omega)
    refine aw_plain_seq (r := sub (bodyOf Try.f12) [true, true, true, true, true, false, false]) (y := sub (bodyOf Try.f12) [true, true, true, true, true, false, true]) (id := 6) (ops := regOps (sub (bodyOf Try.f12) [true, true, true, true, true, false, false])) (by kernel_rfl) (by kernel_rfl) (by kernel_rfl) (by kernel_rfl) (
        .cons (d := some 28) (by kernel_rfl) (does_move (x := .tmp 6) (v := .int .i64 (Sp.ofe (n % 17592186044415))) (by kernel_rfl) (by kernel_rfl)) <|
        .cons (d := some 29) (by kernel_rfl) (does_bool (b' := false) (does_pure (v := .bool ((Sp.ofe (n % 17592186044415)) == 0)) (by kernel_rfl) (fun w => by kernel_rfl) (by kernel_rfl)) (h1)) <|
        .cons (d := some 30) (by kernel_rfl) (does_move (x := .tmp 29) (v := .bool false) (by kernel_rfl) (by kernel_rfl)) <|
        .cons (d := some 31) (by kernel_rfl) (does_skipB (by kernel_rfl)) <|
        .cons (d := some 32) (by kernel_rfl) (does_skipB (by kernel_rfl)) <|
        .cons (d := some 33) (by kernel_rfl) (does_pick (c := .tmp 30) (x := .tmp 32) (y := .const (.bool false)) (b := false) (v := .bool false) (by kernel_rfl) (by kernel_rfl) (by kernel_rfl)) <|
        .cons (d := some 34) (by kernel_rfl) (does_move (x := .tmp 33) (v := .bool false) (by kernel_rfl) (by kernel_rfl)) <|
        .cons (d := some 35) (by kernel_rfl) (does_skipB (by kernel_rfl)) <|
        .cons (d := some 36) (by kernel_rfl) (does_skipB (by kernel_rfl)) <|
        .cons (d := some 37) (by kernel_rfl) (does_skipB (by kernel_rfl)) <|
        .cons (d := some 38) (by kernel_rfl) (does_skipB (by kernel_rfl)) <|
        .cons (d := some 39) (by kernel_rfl) (does_pick (c := .tmp 34) (x := .tmp 38) (y := .const (.bool false)) (b := false) (v := .bool false) (by kernel_rfl) (by kernel_rfl) (by kernel_rfl)) <|
        .nil _ _) ?_
    refine aw_false (o := .tmp 39) (x := sub (bodyOf Try.f12) [true, true, true, true, true, false, true, false]) (y := sub (bodyOf Try.f12) [true, true, true, true, true, false, true, true]) (by kernel_rfl) (by kernel_rfl) ?_
    refine aw_skip (by kernel_rfl) ?_
    refine then_normal ?_
    refine aw_plain_seq (r := sub (bodyOf Try.f12) [true, true, true, true, true, true, false]) (y := sub (bodyOf Try.f12) [true, true, true, true, true, true, true]) (id := 8) (ops := regOps (sub (bodyOf Try.f12) [true, true, true, true, true, true, false])) (by kernel_rfl) (by kernel_rfl) (by kernel_rfl) (by kernel_rfl) (
        .cons (d := some 40) (by kernel_rfl) (does_move (x := .tmp 1) (v := .int .i64 x) (by kernel_rfl) (by kernel_rfl)) <|
        .cons (d := some 41) (by kernel_rfl) (does_call0 (x := .func 46) (ars := #[.tmp 40]) (ats := #[3]) (g := 46) (vs := [.int .i64 x]) (v := .agg #[.int .i64 u, .int .i64 v]) (by kernel_rfl) (by kernel_rfl) (by kernel_rfl) (by kernel_rfl) (hx) (by kernel_rfl) (by kernel_rfl)) <|
        .cons (d := some 9) (by kernel_rfl) (does_alloc (t := 24) (k := 3) (v := .agg #[.int .i64 0, .int .i64 0]) (cells := [.int .i64 0, .int .i64 0]) (by kernel_rfl) (by kernel_rfl) (by kernel_rfl) (by kernel_rfl) (by kernel_rfl)) <|
        .cons (d := none) (by kernel_rfl) (does_store (t := 24) (x := .tmp 9) (y := .tmp 41) (k := 3) (off := 0) (b := ⟨[.int .i64 0, .int .i64 0], 24, true, 2⟩) (v := .agg #[.int .i64 u, .int .i64 v]) (cells := [.int .i64 u, .int .i64 v]) (by kernel_rfl) (by kernel_rfl) (by kernel_rfl) (by kernel_rfl) rfl (by kernel_rfl) (by kernel_rfl) (by kernel_rfl) (by kernel_rfl)) <|
        .nil _ _) ?_
    refine aw_plain_seq (r := sub (bodyOf Try.f12) [true, true, true, true, true, true, true, false]) (y := sub (bodyOf Try.f12) [true, true, true, true, true, true, true, true]) (id := 9) (ops := regOps (sub (bodyOf Try.f12) [true, true, true, true, true, true, true, false])) (by kernel_rfl) (by kernel_rfl) (by kernel_rfl) (by kernel_rfl) (
        .cons (d := some 42) (by kernel_rfl) (does_load (t := 24) (x := .tmp 9) (k := 3) (off := 0) (b := ⟨[.int .i64 u, .int .i64 v], 24, true, 2⟩) (v := .agg #[.int .i64 u, .int .i64 v]) (by kernel_rfl) (by kernel_rfl) (by kernel_rfl) (by kernel_rfl)) <|
        .cons (d := some 43) (by kernel_rfl) (does_call0 (x := .func 26) (ars := #[.tmp 42]) (ats := #[24]) (g := 26) (vs := [.agg #[.int .i64 u, .int .i64 v]]) (v := .int .i64 (Sp.index u v)) (by kernel_rfl) (by kernel_rfl) (by kernel_rfl) (by kernel_rfl) (cindex_ok u v) (by kernel_rfl) (by kernel_rfl)) <|
        .cons (d := some 10) (by kernel_rfl) (does_assign (x := .tmp 43) (v := .int .i64 (Sp.index u v)) (by kernel_rfl) (by kernel_rfl)) <|
        .nil _ _) ?_
    refine aw_plain_seq (r := sub (bodyOf Try.f12) [true, true, true, true, true, true, true, true, false]) (y := sub (bodyOf Try.f12) [true, true, true, true, true, true, true, true, true]) (id := 10) (ops := regOps (sub (bodyOf Try.f12) [true, true, true, true, true, true, true, true, false])) (by kernel_rfl) (by kernel_rfl) (by kernel_rfl) (by kernel_rfl) (
        .cons (d := some 45) (by kernel_rfl) (does_move (x := .tmp 10) (v := .int .i64 (Sp.index u v)) (by kernel_rfl) (by kernel_rfl)) <|
        .cons (d := some 46) (by kernel_rfl) (does_call0 (x := .func 27) (ars := #[.tmp 45]) (ats := #[3]) (g := 27) (vs := [.int .i64 (Sp.index u v)]) (v := .tuple #[.agg #[.int .i64 (Sp.ofx (Sp.index u v)), .int .i64 (Sp.ofy (Sp.index u v))], .int .i64 (Sp.ofe (Sp.index u v))]) (by kernel_rfl) (by kernel_rfl) (by kernel_rfl) (by kernel_rfl) (cof_ok (Sp.index u v)) (by kernel_rfl) (by kernel_rfl)) <|
        .cons (d := some 44) (by kernel_rfl) (does_move (x := .tmp 46) (v := .tuple #[.agg #[.int .i64 (Sp.ofx (Sp.index u v)), .int .i64 (Sp.ofy (Sp.index u v))], .int .i64 (Sp.ofe (Sp.index u v))]) (by kernel_rfl) (by kernel_rfl)) <|
        .cons (d := some 47) (by kernel_rfl) (does_extract (x := .tmp 44) (n := 0) (vs := #[.agg #[.int .i64 (Sp.ofx (Sp.index u v)), .int .i64 (Sp.ofy (Sp.index u v))], .int .i64 (Sp.ofe (Sp.index u v))]) (v := .agg #[.int .i64 (Sp.ofx (Sp.index u v)), .int .i64 (Sp.ofy (Sp.index u v))]) (by kernel_rfl) (by kernel_rfl) (by kernel_rfl)) <|
        .cons (d := some 48) (by kernel_rfl) (does_extract (x := .tmp 44) (n := 1) (vs := #[.agg #[.int .i64 (Sp.ofx (Sp.index u v)), .int .i64 (Sp.ofy (Sp.index u v))], .int .i64 (Sp.ofe (Sp.index u v))]) (v := .int .i64 (Sp.ofe (Sp.index u v))) (by kernel_rfl) (by kernel_rfl) (by kernel_rfl)) <|
        .cons (d := some 11) (by kernel_rfl) (does_alloc (t := 24) (k := 4) (v := .agg #[.int .i64 0, .int .i64 0]) (cells := [.int .i64 0, .int .i64 0]) (by kernel_rfl) (by kernel_rfl) (by kernel_rfl) (by kernel_rfl) (by kernel_rfl)) <|
        .cons (d := none) (by kernel_rfl) (does_store (t := 24) (x := .tmp 11) (y := .tmp 47) (k := 4) (off := 0) (b := ⟨[.int .i64 0, .int .i64 0], 24, true, 2⟩) (v := .agg #[.int .i64 (Sp.ofx (Sp.index u v)), .int .i64 (Sp.ofy (Sp.index u v))]) (cells := [.int .i64 (Sp.ofx (Sp.index u v)), .int .i64 (Sp.ofy (Sp.index u v))]) (by kernel_rfl) (by kernel_rfl) (by kernel_rfl) (by kernel_rfl) rfl (by kernel_rfl) (by kernel_rfl) (by kernel_rfl) (by kernel_rfl)) <|
        .cons (d := some 12) (by kernel_rfl) (does_assign (x := .tmp 48) (v := .int .i64 (Sp.ofe (Sp.index u v))) (by kernel_rfl) (by kernel_rfl)) <|
        .nil _ _) ?_
    refine aw_plain_seq (r := sub (bodyOf Try.f12) [true, true, true, true, true, true, true, true, true, false]) (y := sub (bodyOf Try.f12) [true, true, true, true, true, true, true, true, true, true]) (id := 11) (ops := regOps (sub (bodyOf Try.f12) [true, true, true, true, true, true, true, true, true, false])) (by kernel_rfl) (by kernel_rfl) (by kernel_rfl) (by kernel_rfl) (
        .cons (d := some 49) (by kernel_rfl) (does_move (x := .tmp 12) (v := .int .i64 (Sp.ofe (Sp.index u v))) (by kernel_rfl) (by kernel_rfl)) <|
        .cons (d := some 50) (by kernel_rfl) (does_bool (b' := true) (does_pure (v := .bool ((Sp.ofe (Sp.index u v)) == 0)) (by kernel_rfl) (fun w => by kernel_rfl) (by kernel_rfl)) (by rw [(Sp.of_index u v).1]; rfl)) <|
        .cons (d := some 51) (by kernel_rfl) (does_move (x := .tmp 50) (v := .bool true) (by kernel_rfl) (by kernel_rfl)) <|
        .cons (d := some 52) (by kernel_rfl) (does_load (t := 24) (x := .tmp 11) (k := 4) (off := 0) (b := ⟨[.int .i64 (Sp.ofx (Sp.index u v)), .int .i64 (Sp.ofy (Sp.index u v))], 24, true, 2⟩) (v := .agg #[.int .i64 (Sp.ofx (Sp.index u v)), .int .i64 (Sp.ofy (Sp.index u v))]) (by kernel_rfl) (by kernel_rfl) (by kernel_rfl) (by kernel_rfl)) <|
        .cons (d := some 53) (by kernel_rfl) (does_load (t := 24) (x := .tmp 9) (k := 3) (off := 0) (b := ⟨[.int .i64 u, .int .i64 v], 24, true, 2⟩) (v := .agg #[.int .i64 u, .int .i64 v]) (by kernel_rfl) (by kernel_rfl) (by kernel_rfl) (by kernel_rfl)) <|
        .cons (d := some 54) (by kernel_rfl) (does_bool (b' := true) (does_eql (t := 24) (t2 := 24) (x := .tmp 52) (y := .tmp 53) (xs := #[.int .i64 (Sp.ofx (Sp.index u v)), .int .i64 (Sp.ofy (Sp.index u v))]) (ys := #[.int .i64 u, .int .i64 v]) (b := (((Sp.ofx (Sp.index u v)) == u) && (((Sp.ofy (Sp.index u v)) == v) && true))) (by kernel_rfl) (by kernel_rfl) (by kernel_rfl) (by kernel_rfl) (by kernel_rfl) (by kernel_rfl) (by kernel_rfl)) (by rw [(Sp.of_index u v).2.1, (Sp.of_index u v).2.2, Sp.lim_id (by omega) (by omega), Sp.lim_id (by omega) (by omega)]; simp)) <|
        .cons (d := some 55) (by kernel_rfl) (does_pick (c := .tmp 51) (x := .tmp 54) (y := .const (.bool false)) (b := true) (v := .bool true) (by kernel_rfl) (by kernel_rfl) (by kernel_rfl)) <|
        .cons (d := some 56) (by kernel_rfl) (does_move (x := .tmp 55) (v := .bool true) (by kernel_rfl) (by kernel_rfl)) <|
        .cons (d := some 57) (by kernel_rfl) (does_move (x := .tmp 6) (v := .int .i64 (Sp.ofe (n % 17592186044415))) (by kernel_rfl) (by kernel_rfl)) <|
        .cons (d := some 58) (by kernel_rfl) (does_bool (b' := false) (does_pure (v := .bool ((Sp.ofe (n % 17592186044415)) == 0)) (by kernel_rfl) (fun w => by kernel_rfl) (by kernel_rfl)) (h1)) <|
        .cons (d := some 59) (by kernel_rfl) (does_move (x := .tmp 58) (v := .bool false) (by kernel_rfl) (by kernel_rfl)) <|
        .cons (d := some 60) (by kernel_rfl) (does_skipB (by kernel_rfl)) <|
        .cons (d := some 61) (by kernel_rfl) (does_skipB (by kernel_rfl)) <|
        .cons (d := some 62) (by kernel_rfl) (does_skipB (by kernel_rfl)) <|
        .cons (d := some 63) (by kernel_rfl) (does_skipB (by kernel_rfl)) <|
        .cons (d := some 64) (by kernel_rfl) (does_pick (c := .tmp 59) (x := .tmp 63) (y := .const (.bool false)) (b := false) (v := .bool false) (by kernel_rfl) (by kernel_rfl) (by kernel_rfl)) <|
        .cons (d := some 65) (by kernel_rfl) (does_move (x := .tmp 64) (v := .bool false) (by kernel_rfl) (by kernel_rfl)) <|
        .cons (d := some 66) (by kernel_rfl) (does_move (x := .tmp 6) (v := .int .i64 (Sp.ofe (n % 17592186044415))) (by kernel_rfl) (by kernel_rfl)) <|
        .cons (d := some 67) (by kernel_rfl) (does_bool (b' := true) (does_pure (v := .bool ((Sp.ofe (n % 17592186044415)) == 17)) (by kernel_rfl) (fun w => by kernel_rfl) (by kernel_rfl)) (by rw [beq_iff_eq]; have q := Sp.ofe_cases (n := n % 17592186044415) (by omega); have := (show ¬ Sp.ofe (n % 17592186044415) = 0 by simpa using ‹(Sp.ofe (n % 17592186044415) == 0) = false›); omega)) <|
        .cons (d := some 68) (by kernel_rfl) (does_pick (c := .tmp 65) (x := .const (.bool true)) (y := .tmp 67) (b := false) (v := .bool true) (by kernel_rfl) (by kernel_rfl) (by kernel_rfl)) <|
        .cons (d := some 69) (by kernel_rfl) (does_pick (c := .tmp 56) (x := .tmp 68) (y := .const (.bool false)) (b := true) (v := .bool true) (by kernel_rfl) (by kernel_rfl) (by kernel_rfl)) <|
        .cons (d := some 4) (by kernel_rfl) (does_assign (x := .tmp 69) (v := .bool true) (by kernel_rfl) (by kernel_rfl)) <|
        .nil _ _) ?_
    refine aw_ret (by kernel_rfl) ?_
    exact end_ret (vs := [.bool true]) (by kernel_rfl) (by kernel_rfl) trivial


end Go.Proofs.Ytpfdihhlpegllaa.Am
