/-
  The walks of areas out of numbers.
-/
import Derived.Test.YtndkhgfecnbmnaaProg
import Derived.Test.YtndkhgfecnbmnaaAm16
import Derived.Test.YtndkhgfecnbmnaaRa3
import Derived.Test.YtndkhgfecnbmnaaAm21
import Derived.Test.YtndkhgfecnbmnaaPt1
namespace Go.Proofs.Ytndkhgfecnbmnaa.Am
open Go Go.Proofs
set_option maxRecDepth 100000
set_option maxHeartbeats 4000000
set_option linter.unusedVariables false
set_option linter.unusedSimpArgs false

theorem asq1_ok (x y r : Int) (x0 : -1000 ≤ x) (x1 : x ≤ 1000) (y0 : -1000 ≤ y) (y1 : y ≤ 1000) (r0 : -1000 ≤ r) (r1 : r ≤ 1000) :
    AC Try.prog 52 0 ([.int .i64 x, .int .i64 y, .int .i64 r]) [] (.slice (some ⟨0, 0, none⟩) 4 0) [(0, ⟨((Sp.sqr x y r).flatMap ptc), 28, true, 2⟩)] := by
  refine ac_in Try.func52 (fun w0 W pin => ?_)
  refine aw_p 3 (
    .a 1 0 <| .nil _ _) ?_
  refine aw_p 7 (
    .a 2 0 <| .p (does_i (x - r) (wrap_i64 (by omega) (by omega)) .i64) <| .a 2 0 <| .p (does_i (y - r) (wrap_i64 (by omega) (by omega)) .i64) <| .a 3 0 <| .p (does_i (x + r) (wrap_i64 (by omega) (by omega)) .i64) <| .a 2 0 <| .p (does_i (y - r) (wrap_i64 (by omega) (by omega)) .i64) <| .a 3 0 <|
    .p (does_i (x + r) (wrap_i64 (by omega) (by omega)) .i64) <| .a 2 0 <| .p (does_i (y + r) (wrap_i64 (by omega) (by omega)) .i64) <| .a 3 0 <| .p (does_i (x - r) (wrap_i64 (by omega) (by omega)) .i64) <| .a 2 0 <| .p (does_i (y + r) (wrap_i64 (by omega) (by omega)) .i64) <| .a 3 0 <| .nil _ _) ?_
  refine aw_w [(0, .int .i64 x), (1, .int .i64 y), (2, .int .i64 r), (6, .slice (some ⟨0, 0, none⟩) 4 0), (7, .int .i64 x), (8, .int .i64 r), (9, .int .i64 (x - r)), (10, .int .i64 y), (11, .int .i64 r), (12, .int .i64 (y - r)), (13, .agg #[.int .i64 (x - r), .int .i64 (y - r)]), (14, .int .i64 x), (15, .int .i64 r), (16, .int .i64 (x + r)), (17, .int .i64 y), (18, .int .i64 r), (19, .int .i64 (y - r)), (20, .agg #[.int .i64 (x + r), .int .i64 (y - r)]), (21, .int .i64 x), (22, .int .i64 r), (23, .int .i64 (x + r)), (24, .int .i64 y), (25, .int .i64 r), (26, .int .i64 (y + r)), (27, .agg #[.int .i64 (x + r), .int .i64 (y + r)]), (28, .int .i64 x), (29, .int .i64 r), (30, .int .i64 (x - r)), (31, .int .i64 y), (32, .int .i64 r), (33, .int .i64 (y + r)), (34, .agg #[.int .i64 (x - r), .int .i64 (y + r)]), (35, .slice (some ⟨0, 0, none⟩) 4 0)] [(0, ⟨((Sp.sqr x y r).flatMap ptc), 28, true, 2⟩)] ?_ (by kernel_rfl) (by kernel_rfl) (hc := (by simp [closedB, valsB, valB, List.all_eq_true, List.mem_flatMap, List.mem_range, List.mem_map, i64v, ptc, Sp.sqr, flat1]; try (intros; simp [valsB, valB, flat1]); try decide))
  refine aw_rt ?_
  exact en_ret [.slice (some ⟨0, 0, none⟩) 4 0] (by kernel_rfl)

theorem asq2_ok (x y r : Int) (x0 : -1000 ≤ x) (x1 : x ≤ 1000) (y0 : -1000 ≤ y) (y1 : y ≤ 1000) (r0 : -1000 ≤ r) (r1 : r ≤ 1000) :
    AC Try.prog 53 0 ([.int .i64 x, .int .i64 y, .int .i64 r]) [] (.slice (some ⟨0, 0, none⟩) 4 0) [(0, ⟨((Sp.hol x y r).flatMap ptc), 28, true, 2⟩)] := by
  refine ac_in Try.func53 (fun w0 W pin => ?_)
  refine aw_p 3 (
    .a 1 0 <| .nil _ _) ?_
  refine aw_p 7 (
    .a 2 0 <| .p (does_i (x - r) (wrap_i64 (by omega) (by omega)) .i64) <| .a 2 0 <| .p (does_i (y - r) (wrap_i64 (by omega) (by omega)) .i64) <| .a 3 0 <| .p (does_i (x - r) (wrap_i64 (by omega) (by omega)) .i64) <| .a 2 0 <| .p (does_i (y + r) (wrap_i64 (by omega) (by omega)) .i64) <| .a 3 0 <|
    .p (does_i (x + r) (wrap_i64 (by omega) (by omega)) .i64) <| .a 2 0 <| .p (does_i (y + r) (wrap_i64 (by omega) (by omega)) .i64) <| .a 3 0 <| .p (does_i (x + r) (wrap_i64 (by omega) (by omega)) .i64) <| .a 2 0 <| .p (does_i (y - r) (wrap_i64 (by omega) (by omega)) .i64) <| .a 3 0 <| .nil _ _) ?_
  refine aw_w [(0, .int .i64 x), (1, .int .i64 y), (2, .int .i64 r), (6, .slice (some ⟨0, 0, none⟩) 4 0), (7, .int .i64 x), (8, .int .i64 r), (9, .int .i64 (x - r)), (10, .int .i64 y), (11, .int .i64 r), (12, .int .i64 (y - r)), (13, .agg #[.int .i64 (x - r), .int .i64 (y - r)]), (14, .int .i64 x), (15, .int .i64 r), (16, .int .i64 (x - r)), (17, .int .i64 y), (18, .int .i64 r), (19, .int .i64 (y + r)), (20, .agg #[.int .i64 (x - r), .int .i64 (y + r)]), (21, .int .i64 x), (22, .int .i64 r), (23, .int .i64 (x + r)), (24, .int .i64 y), (25, .int .i64 r), (26, .int .i64 (y + r)), (27, .agg #[.int .i64 (x + r), .int .i64 (y + r)]), (28, .int .i64 x), (29, .int .i64 r), (30, .int .i64 (x + r)), (31, .int .i64 y), (32, .int .i64 r), (33, .int .i64 (y - r)), (34, .agg #[.int .i64 (x + r), .int .i64 (y - r)]), (35, .slice (some ⟨0, 0, none⟩) 4 0)] [(0, ⟨((Sp.hol x y r).flatMap ptc), 28, true, 2⟩)] ?_ (by kernel_rfl) (by kernel_rfl) (hc := (by simp [closedB, valsB, valB, List.all_eq_true, List.mem_flatMap, List.mem_range, List.mem_map, i64v, ptc, Sp.hol, flat1]; try (intros; simp [valsB, valB, flat1]); try decide))
  refine aw_rt ?_
  exact en_ret [.slice (some ⟨0, 0, none⟩) 4 0] (by kernel_rfl)

theorem nextz (xs : List Int) (p : Nat) (n : Int) (h0 : 0 < n) (hz : n ≤ 9223372036854775807) : AC Try.prog 51 2 [.pointer (some ⟨0, 0, none⟩), .int .i64 n] [(0, ⟨[.slice (some ⟨1, (min p xs.length), none⟩) (xs.length - p) 0], 71, true, 1⟩), (1, ⟨(xs.map i64v), 3, false, 1⟩)] (.int .i64 (xs.getD p 0 % n)) [(0, ⟨[.slice (some ⟨1, (min (p + 1) xs.length), none⟩) (xs.length - (p + 1)) 0], 71, true, 1⟩)] := by
  by_cases hp : p < xs.length
  · have h := next_ro xs p n hp h0 hz
    rw [show min p xs.length = p by omega, show min (p + 1) xs.length = p + 1 by omega, Nat.sub_add_eq]
    exact h
  · have h := next0_ro xs (min p xs.length) n (by omega)
    rw [show xs.length - min p xs.length = 0 by omega] at h
    rw [show min (p + 1) xs.length = min p xs.length by omega, show xs.length - p = 0 by omega, show xs.length - (p + 1) = 0 by omega, show xs.getD p 0 = 0 by simp [List.getD, List.getElem?_eq_none (Nat.le_of_not_lt hp)], Int.zero_emod]
    exact h
theorem nextz0 (xs : List Int) (n : Int) (h0 : 0 < n) (hz : n ≤ 9223372036854775807) : AC Try.prog 51 2 [.pointer (some ⟨0, 0, none⟩), .int .i64 n] [(0, ⟨[.slice (some ⟨1, 0, none⟩) (xs.length) 0], 71, true, 1⟩), (1, ⟨(xs.map i64v), 3, false, 1⟩)] (.int .i64 (xs.getD 0 0 % n)) [(0, ⟨[.slice (some ⟨1, (min (0 + 1) xs.length), none⟩) (xs.length - (0 + 1)) 0], 71, true, 1⟩)] := by
  have h := nextz xs 0 n h0 hz
  rw [Nat.zero_min, Nat.sub_zero] at h
  exact h
theorem nextzo (xs : List Int) (p : Nat) (n : Int) (h0 : 0 < n) (hz : n ≤ 9223372036854775807) : AC Try.prog 51 2 [.pointer (some ⟨0, 0, none⟩), .int .i64 n] [(0, ⟨[.slice (some ⟨1, (min p xs.length), none⟩) (xs.length - p) 0], 71, true, 1⟩), (1, ⟨(xs.map i64v), 3, true, 1⟩)] (.int .i64 (xs.getD p 0 % n)) [(0, ⟨[.slice (some ⟨1, (min (p + 1) xs.length), none⟩) (xs.length - (p + 1)) 0], 71, true, 1⟩), (1, ⟨(xs.map i64v), 3, true, 1⟩)] := by
  by_cases hp : p < xs.length
  · have h := next_own xs p n hp h0 hz
    rw [show min p xs.length = p by omega, show min (p + 1) xs.length = p + 1 by omega, Nat.sub_add_eq]
    exact h
  · have h := next0_own xs (min p xs.length) n (by omega)
    rw [show xs.length - min p xs.length = 0 by omega] at h
    rw [show min (p + 1) xs.length = min p xs.length by omega, show xs.length - p = 0 by omega, show xs.length - (p + 1) = 0 by omega, show xs.getD p 0 = 0 by simp [List.getD, List.getElem?_eq_none (Nat.le_of_not_lt hp)], Int.zero_emod]
    exact h
theorem nextz0o (xs : List Int) (n : Int) (h0 : 0 < n) (hz : n ≤ 9223372036854775807) : AC Try.prog 51 2 [.pointer (some ⟨0, 0, none⟩), .int .i64 n] [(0, ⟨[.slice (some ⟨1, 0, none⟩) (xs.length) 0], 71, true, 1⟩), (1, ⟨(xs.map i64v), 3, true, 1⟩)] (.int .i64 (xs.getD 0 0 % n)) [(0, ⟨[.slice (some ⟨1, (min (0 + 1) xs.length), none⟩) (xs.length - (0 + 1)) 0], 71, true, 1⟩), (1, ⟨(xs.map i64v), 3, true, 1⟩)] := by
  have h := nextzo xs 0 n h0 hz
  rw [Nat.zero_min, Nat.sub_zero] at h
  exact h

end Go.Proofs.Ytndkhgfecnbmnaa.Am
