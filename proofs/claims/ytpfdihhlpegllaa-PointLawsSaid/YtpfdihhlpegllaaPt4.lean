/-
  The walk of the moving of points.
-/
import Derived.Test.YtpfdihhlpegllaaProg
import Derived.Test.YtpfdihhlpegllaaPt1
namespace Go.Proofs.Ytpfdihhlpegllaa.Am
open Go Go.Proofs
set_option maxRecDepth 100000
set_option maxHeartbeats 4000000
set_option linter.unusedVariables false
set_option linter.unusedSimpArgs false

theorem shift_ok (x y u v : Int) (h1 : -9223372036854775808 ≤ x + u) (h2 : x + u ≤ 9223372036854775807) (h3 : -9223372036854775808 ≤ y + v) (h4 : y + v ≤ 9223372036854775807) :
    AC Try.prog 47 1 ([.agg #[.int .i64 x, .int .i64 y], .pointer (some ⟨0, 0, none⟩)]) [(0, ⟨[.int .i64 u, .int .i64 v], 24, true, 2⟩)] (.agg #[.int .i64 (x + u), .int .i64 (y + v)]) [(0, ⟨[.int .i64 u, .int .i64 v], 24, true, 2⟩)] := by
  refine ac_intro (fn := Try.f47) (c := bodyOf Try.f47) Try.func47 (by kernel_rfl) (by kernel_rfl) (by kernel_rfl) ?_
  intro w0 W pin
  refine aw_sub ?_
  refine aw_plain_seq (r := sub (bodyOf Try.f47) [false]) (y := sub (bodyOf Try.f47) [true]) (id := 0) (ops := regOps (sub (bodyOf Try.f47) [false])) (by kernel_rfl) (by kernel_rfl) (by kernel_rfl) (by kernel_rfl) (
      .cons (d := some 2) (by kernel_rfl) (does_box (t := 24) (x := .tmp 0) (k := 1) (v := .agg #[.int .i64 x, .int .i64 y]) (cells := [.int .i64 x, .int .i64 y]) (by kernel_rfl) (by kernel_rfl) (by kernel_rfl) (by kernel_rfl)) <|
      .cons (d := some 3) (by kernel_rfl) (does_alloc (t := 24) (k := 2) (v := .agg #[.int .i64 0, .int .i64 0]) (cells := [.int .i64 0, .int .i64 0]) (by kernel_rfl) (by kernel_rfl) (by kernel_rfl) (by kernel_rfl) (by kernel_rfl)) <|
      .nil _ _) ?_
  refine aw_weak (weak_b (T := [(1, .pointer (some ⟨0, 0, none⟩)), (2, .pointer (some ⟨1, 0, none⟩)), (3, .pointer (some ⟨2, 0, none⟩))]) (L := [(0, ⟨[.int .i64 u, .int .i64 v], 24, true, 2⟩), (1, ⟨[.int .i64 x, .int .i64 y], 24, true, 2⟩), (2, ⟨[.int .i64 0, .int .i64 0], 24, true, 2⟩)]) (by kernel_rfl) (by kernel_rfl) (by kernel_rfl)) ?_
  refine aw_plain_seq (r := sub (bodyOf Try.f47) [true, false]) (y := sub (bodyOf Try.f47) [true, true]) (id := 1) (ops := regOps (sub (bodyOf Try.f47) [true, false])) (by kernel_rfl) (by kernel_rfl) (by kernel_rfl) (by kernel_rfl) (
      .cons (d := some 4) (by kernel_rfl) (does_fieldAddr (s := 24) (x := .tmp 2) (f := 0) (k := 1) (off := 0) (d := 0) (by kernel_rfl) (by kernel_rfl) (by kernel_rfl)) <|
      .cons (d := some 5) (by kernel_rfl) (does_load (t := 3) (x := .tmp 4) (k := 1) (off := 0) (b := ⟨[.int .i64 x, .int .i64 y], 24, true, 2⟩) (v := .int .i64 x) (by kernel_rfl) (by kernel_rfl) (by kernel_rfl) (by kernel_rfl)) <|
      .cons (d := some 6) (by kernel_rfl) (does_fieldAddr (s := 24) (x := .tmp 1) (f := 0) (k := 0) (off := 0) (d := 0) (by kernel_rfl) (by kernel_rfl) (by kernel_rfl)) <|
      .cons (d := some 7) (by kernel_rfl) (does_load (t := 3) (x := .tmp 6) (k := 0) (off := 0) (b := ⟨[.int .i64 u, .int .i64 v], 24, true, 2⟩) (v := .int .i64 u) (by kernel_rfl) (by kernel_rfl) (by kernel_rfl) (by kernel_rfl)) <|
      .cons (d := some 8) (by kernel_rfl) (does_int (n' := x + u) (does_pure (v := .int .i64 (IntKind.wrap .i64 (x + u))) (by kernel_rfl) (fun w => by kernel_rfl) (by kernel_rfl)) (wrap_i64 (by omega) (by omega))) <|
      .cons (d := some 9) (by kernel_rfl) (does_fieldAddr (s := 24) (x := .tmp 2) (f := 1) (k := 1) (off := 0) (d := 1) (by kernel_rfl) (by kernel_rfl) (by kernel_rfl)) <|
      .cons (d := some 10) (by kernel_rfl) (does_load (t := 3) (x := .tmp 9) (k := 1) (off := 1) (b := ⟨[.int .i64 x, .int .i64 y], 24, true, 2⟩) (v := .int .i64 y) (by kernel_rfl) (by kernel_rfl) (by kernel_rfl) (by kernel_rfl)) <|
      .cons (d := some 11) (by kernel_rfl) (does_fieldAddr (s := 24) (x := .tmp 1) (f := 1) (k := 0) (off := 0) (d := 1) (by kernel_rfl) (by kernel_rfl) (by kernel_rfl)) <|
      .cons (d := some 12) (by kernel_rfl) (does_load (t := 3) (x := .tmp 11) (k := 0) (off := 1) (b := ⟨[.int .i64 u, .int .i64 v], 24, true, 2⟩) (v := .int .i64 v) (by kernel_rfl) (by kernel_rfl) (by kernel_rfl) (by kernel_rfl)) <|
      .cons (d := some 13) (by kernel_rfl) (does_int (n' := y + v) (does_pure (v := .int .i64 (IntKind.wrap .i64 (y + v))) (by kernel_rfl) (fun w => by kernel_rfl) (by kernel_rfl)) (wrap_i64 (by omega) (by omega))) <|
      .cons (d := some 14) (by kernel_rfl) (does_call0 (x := .func 48) (ars := #[.tmp 8, .tmp 13]) (ats := #[3, 3]) (g := 48) (vs := [.int .i64 (x + u), .int .i64 (y + v)]) (v := .agg #[.int .i64 (x + u), .int .i64 (y + v)]) (by kernel_rfl) (by kernel_rfl) (by kernel_rfl) (by kernel_rfl) (terrkeep1_at_ok (x + u) (y + v)) (by kernel_rfl) (by kernel_rfl)) <|
      .cons (d := none) (by kernel_rfl) (does_store (t := 24) (x := .tmp 3) (y := .tmp 14) (k := 2) (off := 0) (b := ⟨[.int .i64 0, .int .i64 0], 24, true, 2⟩) (v := .agg #[.int .i64 (x + u), .int .i64 (y + v)]) (cells := [.int .i64 (x + u), .int .i64 (y + v)]) (by kernel_rfl) (by kernel_rfl) (by kernel_rfl) (by kernel_rfl) rfl (by kernel_rfl) (by kernel_rfl) (by kernel_rfl) (by kernel_rfl)) <|
      .nil _ _) ?_
  refine aw_weak (weak_b (T := [(3, .pointer (some ⟨2, 0, none⟩))]) (L := [(0, ⟨[.int .i64 u, .int .i64 v], 24, true, 2⟩), (2, ⟨[.int .i64 (x + u), .int .i64 (y + v)], 24, true, 2⟩)]) (by kernel_rfl) (by kernel_rfl) (by kernel_rfl)) ?_
  refine aw_ret (by kernel_rfl) ?_
  exact end_ret (vs := [.agg #[.int .i64 (x + u), .int .i64 (y + v)]]) (by kernel_rfl) (by kernel_rfl) ⟨(by kernel_rfl), trivial⟩


end Go.Proofs.Ytpfdihhlpegllaa.Am
