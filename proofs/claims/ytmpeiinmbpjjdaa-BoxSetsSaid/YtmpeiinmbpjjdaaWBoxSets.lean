/-
  The walk of the law BoxSets.
-/
import Derived.Test.YtmpeiinmbpjjdaaProg
import Derived.Test.YtmpeiinmbpjjdaaAm16
import Derived.Test.YtmpeiinmbpjjdaaBs
import Derived.Test.YtmpeiinmbpjjdaaBg
namespace Go.Proofs.Ytmpeiinmbpjjdaa.Am
open Go Go.Proofs
set_option maxRecDepth 100000
set_option maxHeartbeats 4000000
set_option linter.unusedVariables false
set_option linter.unusedSimpArgs false

theorem boxSets_walk (xs : List Int) (n : Nat) (hn : min (xs.length / 4) 12 = n) (hz : xs.length ≤ 9223372036854775807) (by_ : Int) (q zx zy : Int) (hq : AC Try.prog 7 0 [.int .i64 q] [] (.agg #[.int .i64 zx, .int .i64 zy]) []) (bzx : -40 ≤ zx) (czx : zx ≤ 40) (bzy : -40 ≤ zy) (czy : zy ≤ 40) :
    AC Try.prog 3 1 ([.slice (some ⟨0, 0, none⟩) xs.length 0, .int .i64 q, .int .i64 by_]) [(0, ⟨(xs.map i64v), 3, false, 1⟩)] (.bool true) [] := by
  have b0 := Sp.bx_bd xs 0; have b1 := Sp.bx_bd xs 1; have y := Sp.emod_bd by_ (n := 30) (by decide)
  refine ac_in Try.func3 (fun w0 W pin => ?_)
  refine aw_p 3 (
    .a 1 1 <| .nil _ _) ?_
  refine aw_sq 6 7 ?_
  refine aw_p 13 (
    .p (does_c (terrkeep1_boxBegun_ok)) <| .a 1 1 <| .nil _ _) ?_
  refine aw_fl 27 ?_
  refine aw_sk ?_
  refine then_normal ?_
  rcases Bool.eq_false_or_eq_true (decide (n = 0)) with h1 | h1
  · have h1p : ((n = 0)) := by first | (simpa using h1) | (have h1q := h1; simp at h1q; omega) | (have h1q := bx1 h1; simp at h1q; omega)
    refine aw_p 15 (
      .a 1 1 <|
      .p (does_callB (x := .func 6) (ars := #[.tmp 18]) (ats := #[22]) (g := 6) (vs := [.slice (some ⟨0, 0, none⟩) xs.length 0]) (m := 1) (r := 0) (firsts := #[]) (caps := #[]) (args0 := [.slice (some ⟨0, 0, none⟩) xs.length 0]) (pre0 := [(0, ⟨(xs.map i64v), 3, false, 1⟩)]) (post0 := []) (pre := [(0, ⟨(xs.map i64v), 3, false, 1⟩)]) (post := []) (v0 := .slice none 0 0) (v := .slice none 0 0) [0] (by kernel_rfl) (by kernel_rfl) (by kernel_rfl) (by kernel_rfl) (boxes_nil xs n hn (by omega) hz) (.cons (.slice _ _ _ _ _ (by decide)) .nil) ⟨rfl, ⟨rfl, rfl, rfl, (.flats (flats_map (fun _ => rfl) _))⟩, trivial⟩ (by kernel_rfl) (by kernel_rfl) (by kernel_rfl) trivial (.flatB (by kernel_rfl))) <|
      .a 1 1 <| .nil _ _) ?_
    refine aw_sq 30 31 ?_
    refine aw_p 61 (
      .a 3 1 <| .nil _ _) ?_
    refine aw_tr 122 ?_
    refine aw_p 245 (
      .a 1 1 <| .nil _ _) ?_
    refine aw_rt ?_
    refine then_ret ?_
    exact en_ret [.bool true] (by kernel_rfl)
  · have h1p : ¬ ((n = 0)) := by first | (simpa using h1) | (have h1q := h1; simp at h1q; omega) | (have h1q := bx2 h1; simp at h1q; omega)
    refine aw_p 15 (
      .a 1 1 <|
      .p (does_callB (x := .func 6) (ars := #[.tmp 18]) (ats := #[22]) (g := 6) (vs := [.slice (some ⟨0, 0, none⟩) xs.length 0]) (m := 1) (r := 1) (firsts := #[]) (caps := #[]) (args0 := [.slice (some ⟨0, 0, none⟩) xs.length 0]) (pre0 := [(0, ⟨(xs.map i64v), 3, false, 1⟩)]) (post0 := [(1, ⟨((List.range n).flatMap (Sp.bxc xs)), 29, true, 4⟩)]) (pre := [(0, ⟨(xs.map i64v), 3, false, 1⟩)]) (post := [(1, ⟨((List.range n).flatMap (Sp.bxc xs)), 29, true, 4⟩)]) (v0 := .slice (some ⟨1, 0, none⟩) n 0) (v := .slice (some ⟨1, 0, none⟩) n 0) [0, 1] (by kernel_rfl) (by kernel_rfl) (by kernel_rfl) (by kernel_rfl) (boxes_some xs n hn (by omega) hz) (.cons (.slice _ _ _ _ _ (by decide)) .nil) ⟨rfl, ⟨rfl, rfl, rfl, (.flats (flats_map (fun _ => rfl) _))⟩, trivial⟩ (by kernel_rfl) (by kernel_rfl) (by kernel_rfl) ⟨rfl, ⟨rfl, rfl, rfl, (.flats (range_flats (fun _ => rfl) _))⟩, trivial⟩ (.slice _ _ _ _ _ (by decide))) <|
      .a 1 2 <| .nil _ _) ?_
    refine aw_sq 30 31 ?_
    refine aw_p 61 (
      .a 3 2 <| .nil _ _) ?_
    refine aw_cd 122 123 (decide (((n : Nat) : Int) < 2)) (fun h2 => ?_) (fun h2 => ?_)
    · have h2p : ((((n : Nat) : Int) < 2)) := by first | (simpa using h2) | (have h2q := h2; simp at h2q; omega) | (have h2q := bx1 h2; simp at h2q; omega)
      refine aw_p 245 (
        .a 1 2 <| .nil _ _) ?_
      refine aw_rt ?_
      refine then_ret ?_
      exact en_ret [.bool true] (by kernel_rfl)
    · have h2p : ¬ ((((n : Nat) : Int) < 2)) := by first | (simpa using h2) | (have h2q := h2; simp at h2q; omega) | (have h2q := bx2 h2; simp at h2q; omega)
      refine aw_sk ?_
      refine then_normal ?_
      refine aw_d 63 (
        .a 1 2 <| .p (does_indexSlice (t := 24) (x := .tmp 23) (y := .const (.int .i64 0)) (k := 1) (off := 0) (n := n) (c := 0) (z := 4) (kd := .i64) (j := 0) (by kernel_rfl) (by kernel_rfl) (by kernel_rfl) (by kernel_rfl) (by kernel_rfl) (by omega) (by omega)) <|
        .p (does_load (t := 29) (x := .tmp 24) (k := 1) (off := 0) (b := ⟨((List.range n).flatMap (Sp.bxc xs)), 29, true, 4⟩) (v := .agg #[.int .i64 (Sp.bxA xs 0), .int .i64 (Sp.bxB xs 0), .int .i64 (Sp.bxC xs 0), .int .i64 (Sp.bxD xs 0)]) (by kernel_rfl) (by kernel_rfl) (by kernel_rfl) (ldV_range (z := 4) (j := 0) (fun _ => rfl) (by kernel_rfl) (by kernel_rfl) (by omega) (by omega))) <|
        .a 1 2 <| .p (does_indexSlice (t := 24) (x := .tmp 26) (y := .const (.int .i64 1)) (k := 1) (off := 0) (n := n) (c := 0) (z := 4) (kd := .i64) (j := 1) (by kernel_rfl) (by kernel_rfl) (by kernel_rfl) (by kernel_rfl) (by kernel_rfl) (by omega) (by omega)) <|
        .p (does_load (t := 29) (x := .tmp 27) (k := 1) (off := 4) (b := ⟨((List.range n).flatMap (Sp.bxc xs)), 29, true, 4⟩) (v := .agg #[.int .i64 (Sp.bxA xs 1), .int .i64 (Sp.bxB xs 1), .int .i64 (Sp.bxC xs 1), .int .i64 (Sp.bxD xs 1)]) (by kernel_rfl) (by kernel_rfl) (by kernel_rfl) (ldV_range (z := 4) (j := 1) (fun _ => rfl) (by kernel_rfl) (by kernel_rfl) (by omega) (by omega))) <|
        .a 1 2 <| .p (does_c (hq)) <| .a 6 2 <| .nil _ _) ?_
      refine aw_p 127 (
        .a 1 5 <| .nil _ _) ?_
      refine aw_sq 254 255 ?_
      refine aw_p 509 (
        .a 4 5 <| .nil _ _) ?_
      refine aw_bl 0 1019 ?_
      refine aw_lp 2039 ?_
      refine al_w [(2, .int .i64 by_), (6, .bool false), (7, .slice (some ⟨1, 0, none⟩) n 0), (8, .pointer (some ⟨2, 0, none⟩)), (9, .pointer (some ⟨3, 0, none⟩)), (10, .pointer (some ⟨4, 0, none⟩)), (11, .bool false), (12, .int .i64 (Sp.bxA xs 0))] [(0, ⟨(xs.map i64v), 3, false, 1⟩), (1, ⟨((List.range n).flatMap (Sp.bxc xs)), 29, true, 4⟩), (2, ⟨[.int .i64 (Sp.bxA xs 0), .int .i64 (Sp.bxB xs 0), .int .i64 (Sp.bxC xs 0), .int .i64 (Sp.bxD xs 0)], 29, true, 4⟩), (3, ⟨[.int .i64 (Sp.bxA xs 1), .int .i64 (Sp.bxB xs 1), .int .i64 (Sp.bxC xs 1), .int .i64 (Sp.bxD xs 1)], 29, true, 4⟩), (4, ⟨[.int .i64 zx, .int .i64 zy], 27, true, 2⟩)] ?_ (hc := (by simp [closedB, valsB, valB, List.all_eq_true, List.mem_flatMap, List.mem_range, List.mem_map, i64v, Sp.bxc, flat1]; try (intros; simp [valsB, valB, flat1]); try decide))
      refine al_ind (fun i : Int × Bool => (fun (u : Int) (c : Bool) => mkSt 1 [(2, .int .i64 by_), (6, .bool false), (7, .slice (some ⟨1, 0, none⟩) n 0), (8, .pointer (some ⟨2, 0, none⟩)), (9, .pointer (some ⟨3, 0, none⟩)), (10, .pointer (some ⟨4, 0, none⟩)), (11, .bool c), (12, .int .i64 u)] [(0, ⟨(xs.map i64v), 3, false, 1⟩), (1, ⟨((List.range n).flatMap (Sp.bxc xs)), 29, true, 4⟩), (2, ⟨[.int .i64 (Sp.bxA xs 0), .int .i64 (Sp.bxB xs 0), .int .i64 (Sp.bxC xs 0), .int .i64 (Sp.bxD xs 0)], 29, true, 4⟩), (3, ⟨[.int .i64 (Sp.bxA xs 1), .int .i64 (Sp.bxB xs 1), .int .i64 (Sp.bxC xs 1), .int .i64 (Sp.bxD xs 1)], 29, true, 4⟩), (4, ⟨[.int .i64 zx, .int .i64 zy], 27, true, 2⟩)]) i.1 i.2) (fun i : Int × Bool => (fun (u : Int) (c : Bool) => ((Sp.bxA xs 0) ≤ u ∧ u ≤ (Sp.bxC xs 0) + 1) ∧ (c = true ↔ Sp.CM (Sp.bxA xs 0) (Sp.bxB xs 0) (Sp.bxC xs 0) (Sp.bxD xs 0) (Sp.bxA xs 1) (Sp.bxB xs 1) (Sp.bxC xs 1) (Sp.bxD xs 1) u)) i.1 i.2) (fun i : Int × Bool => (fun (u : Int) (c : Bool) => ((Sp.bxC xs 0) + 1 - u).toNat) i.1 i.2) (fun i hi1 ih1 => ?_) ((Sp.bxA xs 0), false) (show ((Sp.bxA xs 0) ≤ (Sp.bxA xs 0) ∧ (Sp.bxA xs 0) ≤ (Sp.bxC xs 0) + 1) ∧ (false = true ↔ Sp.CM (Sp.bxA xs 0) (Sp.bxB xs 0) (Sp.bxC xs 0) (Sp.bxD xs 0) (Sp.bxA xs 1) (Sp.bxB xs 1) (Sp.bxC xs 1) (Sp.bxD xs 1) (Sp.bxA xs 0)) from ⟨by omega, by exact Sp.cm_0 rfl⟩)
      obtain ⟨u, c⟩ := i
      have hi1' : ((Sp.bxA xs 0) ≤ u ∧ u ≤ (Sp.bxC xs 0) + 1) ∧ (c = true ↔ Sp.CM (Sp.bxA xs 0) (Sp.bxB xs 0) (Sp.bxC xs 0) (Sp.bxD xs 0) (Sp.bxA xs 1) (Sp.bxB xs 1) (Sp.bxC xs 1) (Sp.bxD xs 1) u) := hi1
      obtain ⟨hi, hc⟩ := hi1'
      show AL _ _ _ (mkSt 1 [(2, .int .i64 by_), (6, .bool false), (7, .slice (some ⟨1, 0, none⟩) n 0), (8, .pointer (some ⟨2, 0, none⟩)), (9, .pointer (some ⟨3, 0, none⟩)), (10, .pointer (some ⟨4, 0, none⟩)), (11, .bool c), (12, .int .i64 u)] [(0, ⟨(xs.map i64v), 3, false, 1⟩), (1, ⟨((List.range n).flatMap (Sp.bxc xs)), 29, true, 4⟩), (2, ⟨[.int .i64 (Sp.bxA xs 0), .int .i64 (Sp.bxB xs 0), .int .i64 (Sp.bxC xs 0), .int .i64 (Sp.bxD xs 0)], 29, true, 4⟩), (3, ⟨[.int .i64 (Sp.bxA xs 1), .int .i64 (Sp.bxB xs 1), .int .i64 (Sp.bxC xs 1), .int .i64 (Sp.bxD xs 1)], 29, true, 4⟩), (4, ⟨[.int .i64 zx, .int .i64 zy], 27, true, 2⟩)]) _
      refine al_round ?_
      refine aw_sq 4078 4079 ?_
      refine aw_p 8157 (
        .a 5 5 <| .nil _ _) ?_
      refine aw_cd 16314 16315 (decide (u ≤ (Sp.bxC xs 0))) (fun h3 => ?_) (fun h3 => ?_)
      · have h3p : ((u ≤ (Sp.bxC xs 0))) := by first | (simpa using h3) | (have h3q := h3; simp at h3q; omega) | (have h3q := bx1 h3; simp at h3q; omega)
        refine aw_sk ?_
        refine then_normal ?_
        refine aw_sq 8158 8159 ?_
        refine aw_bl 1 16317 ?_
        refine aw_p 32635 (
          .a 4 5 <| .nil _ _) ?_
        refine aw_bl 2 65271 ?_
        refine aw_lp 130543 ?_
        refine al_w [(2, .int .i64 by_), (6, .bool false), (7, .slice (some ⟨1, 0, none⟩) n 0), (8, .pointer (some ⟨2, 0, none⟩)), (9, .pointer (some ⟨3, 0, none⟩)), (10, .pointer (some ⟨4, 0, none⟩)), (11, .bool c), (12, .int .i64 u), (13, .int .i64 (Sp.bxB xs 0))] [(0, ⟨(xs.map i64v), 3, false, 1⟩), (1, ⟨((List.range n).flatMap (Sp.bxc xs)), 29, true, 4⟩), (2, ⟨[.int .i64 (Sp.bxA xs 0), .int .i64 (Sp.bxB xs 0), .int .i64 (Sp.bxC xs 0), .int .i64 (Sp.bxD xs 0)], 29, true, 4⟩), (3, ⟨[.int .i64 (Sp.bxA xs 1), .int .i64 (Sp.bxB xs 1), .int .i64 (Sp.bxC xs 1), .int .i64 (Sp.bxD xs 1)], 29, true, 4⟩), (4, ⟨[.int .i64 zx, .int .i64 zy], 27, true, 2⟩)] ?_ (hc := (by simp [closedB, valsB, valB, List.all_eq_true, List.mem_flatMap, List.mem_range, List.mem_map, i64v, Sp.bxc, flat1]; try (intros; simp [valsB, valB, flat1]); try decide))
        refine al_ind (fun i : Int × Bool => (fun (k : Int) (e : Bool) => mkSt 1 [(2, .int .i64 by_), (6, .bool false), (7, .slice (some ⟨1, 0, none⟩) n 0), (8, .pointer (some ⟨2, 0, none⟩)), (9, .pointer (some ⟨3, 0, none⟩)), (10, .pointer (some ⟨4, 0, none⟩)), (11, .bool e), (12, .int .i64 u), (13, .int .i64 k)] [(0, ⟨(xs.map i64v), 3, false, 1⟩), (1, ⟨((List.range n).flatMap (Sp.bxc xs)), 29, true, 4⟩), (2, ⟨[.int .i64 (Sp.bxA xs 0), .int .i64 (Sp.bxB xs 0), .int .i64 (Sp.bxC xs 0), .int .i64 (Sp.bxD xs 0)], 29, true, 4⟩), (3, ⟨[.int .i64 (Sp.bxA xs 1), .int .i64 (Sp.bxB xs 1), .int .i64 (Sp.bxC xs 1), .int .i64 (Sp.bxD xs 1)], 29, true, 4⟩), (4, ⟨[.int .i64 zx, .int .i64 zy], 27, true, 2⟩)]) i.1 i.2) (fun i : Int × Bool => (fun (k : Int) (e : Bool) => ((Sp.bxB xs 0) ≤ k ∧ k ≤ (Sp.bxD xs 0) + 1) ∧ (e = true ↔ Sp.CI (Sp.bxA xs 0) (Sp.bxB xs 0) (Sp.bxC xs 0) (Sp.bxD xs 0) (Sp.bxA xs 1) (Sp.bxB xs 1) (Sp.bxC xs 1) (Sp.bxD xs 1) u k)) i.1 i.2) (fun i : Int × Bool => (fun (k : Int) (e : Bool) => ((Sp.bxD xs 0) + 1 - k).toNat) i.1 i.2) (fun i hi2 ih2 => ?_) ((Sp.bxB xs 0), c) (show ((Sp.bxB xs 0) ≤ (Sp.bxB xs 0) ∧ (Sp.bxB xs 0) ≤ (Sp.bxD xs 0) + 1) ∧ (c = true ↔ Sp.CI (Sp.bxA xs 0) (Sp.bxB xs 0) (Sp.bxC xs 0) (Sp.bxD xs 0) (Sp.bxA xs 1) (Sp.bxB xs 1) (Sp.bxC xs 1) (Sp.bxD xs 1) u (Sp.bxB xs 0)) from ⟨by omega, by exact Sp.ci_0 hc⟩)
        obtain ⟨k, e⟩ := i
        have hi2' : ((Sp.bxB xs 0) ≤ k ∧ k ≤ (Sp.bxD xs 0) + 1) ∧ (e = true ↔ Sp.CI (Sp.bxA xs 0) (Sp.bxB xs 0) (Sp.bxC xs 0) (Sp.bxD xs 0) (Sp.bxA xs 1) (Sp.bxB xs 1) (Sp.bxC xs 1) (Sp.bxD xs 1) u k) := hi2
        obtain ⟨hk, he⟩ := hi2'
        show AL _ _ _ (mkSt 1 [(2, .int .i64 by_), (6, .bool false), (7, .slice (some ⟨1, 0, none⟩) n 0), (8, .pointer (some ⟨2, 0, none⟩)), (9, .pointer (some ⟨3, 0, none⟩)), (10, .pointer (some ⟨4, 0, none⟩)), (11, .bool e), (12, .int .i64 u), (13, .int .i64 k)] [(0, ⟨(xs.map i64v), 3, false, 1⟩), (1, ⟨((List.range n).flatMap (Sp.bxc xs)), 29, true, 4⟩), (2, ⟨[.int .i64 (Sp.bxA xs 0), .int .i64 (Sp.bxB xs 0), .int .i64 (Sp.bxC xs 0), .int .i64 (Sp.bxD xs 0)], 29, true, 4⟩), (3, ⟨[.int .i64 (Sp.bxA xs 1), .int .i64 (Sp.bxB xs 1), .int .i64 (Sp.bxC xs 1), .int .i64 (Sp.bxD xs 1)], 29, true, 4⟩), (4, ⟨[.int .i64 zx, .int .i64 zy], 27, true, 2⟩)]) _
        refine al_round ?_
        refine aw_sq 261086 261087 ?_
        refine aw_p 522173 (
          .a 5 5 <| .nil _ _) ?_
        refine aw_cd 1044346 1044347 (decide (k ≤ (Sp.bxD xs 0))) (fun h4 => ?_) (fun h4 => ?_)
        · have h4p : ((k ≤ (Sp.bxD xs 0))) := by first | (simpa using h4) | (have h4q := h4; simp at h4q; omega) | (have h4q := bx1 h4; simp at h4q; omega)
          refine aw_sk ?_
          refine then_normal ?_
          refine aw_sq 522174 522175 ?_
          refine aw_bl 3 1044349 ?_
          rcases Bool.eq_false_or_eq_true (e) with h5 | h5
          · refine aw_d1 (
              .p (does_b true (h5)) <| .a 8 5 <| .nil _ _) ?_
            refine block_normal ?_
            refine then_normal ?_
            refine aw_p1 (
              .a 1 5 <| .p (does_i (k + 1) (wrap_i64 (by omega) (by omega)) .i64) <| .a 1 5 <| .nil _ _) ?_
            refine then_normal ?_
            refine al_w [(2, .int .i64 by_), (6, .bool false), (7, .slice (some ⟨1, 0, none⟩) n 0), (8, .pointer (some ⟨2, 0, none⟩)), (9, .pointer (some ⟨3, 0, none⟩)), (10, .pointer (some ⟨4, 0, none⟩)), (11, .bool true), (12, .int .i64 u), (13, .int .i64 (k + 1))] [(0, ⟨(xs.map i64v), 3, false, 1⟩), (1, ⟨((List.range n).flatMap (Sp.bxc xs)), 29, true, 4⟩), (2, ⟨[.int .i64 (Sp.bxA xs 0), .int .i64 (Sp.bxB xs 0), .int .i64 (Sp.bxC xs 0), .int .i64 (Sp.bxD xs 0)], 29, true, 4⟩), (3, ⟨[.int .i64 (Sp.bxA xs 1), .int .i64 (Sp.bxB xs 1), .int .i64 (Sp.bxC xs 1), .int .i64 (Sp.bxD xs 1)], 29, true, 4⟩), (4, ⟨[.int .i64 zx, .int .i64 zy], 27, true, 2⟩)] ?_ (hc := (by simp [closedB, valsB, valB, List.all_eq_true, List.mem_flatMap, List.mem_range, List.mem_map, i64v, Sp.bxc, flat1]; try (intros; simp [valsB, valB, flat1]); try decide))
            exact ih2 ((k + 1), true) (show ((Sp.bxB xs 0) ≤ (k + 1) ∧ (k + 1) ≤ (Sp.bxD xs 0) + 1) ∧ (true = true ↔ Sp.CI (Sp.bxA xs 0) (Sp.bxB xs 0) (Sp.bxC xs 0) (Sp.bxD xs 0) (Sp.bxA xs 1) (Sp.bxB xs 1) (Sp.bxC xs 1) (Sp.bxD xs 1) u (k + 1)) from ⟨by omega, by (first | exact Sp.ci_t he (by assumption) | exact Sp.ci_f he (by assumption) (by omega))⟩) (show ((Sp.bxD xs 0) + 1 - (k + 1)).toNat < ((Sp.bxD xs 0) + 1 - k).toNat from by omega)
          · refine aw_d1 (
              .p (does_b false (h5)) <| .a 4 5 <| .p (does_c (terrkeep1_at_ok u k)) <| .p (does_c (has_ok (Sp.bxA xs 1) (Sp.bxB xs 1) (Sp.bxC xs 1) (Sp.bxD xs 1) u k)) <| .a 2 5 <| .nil _ _) ?_
            refine block_normal ?_
            refine then_normal ?_
            refine aw_p1 (
              .a 1 5 <| .p (does_i (k + 1) (wrap_i64 (by omega) (by omega)) .i64) <| .a 1 5 <| .nil _ _) ?_
            refine then_normal ?_
            refine al_w [(2, .int .i64 by_), (6, .bool false), (7, .slice (some ⟨1, 0, none⟩) n 0), (8, .pointer (some ⟨2, 0, none⟩)), (9, .pointer (some ⟨3, 0, none⟩)), (10, .pointer (some ⟨4, 0, none⟩)), (11, .bool (Sp.inbox (Sp.bxA xs 1) (Sp.bxB xs 1) (Sp.bxC xs 1) (Sp.bxD xs 1) u k)), (12, .int .i64 u), (13, .int .i64 (k + 1))] [(0, ⟨(xs.map i64v), 3, false, 1⟩), (1, ⟨((List.range n).flatMap (Sp.bxc xs)), 29, true, 4⟩), (2, ⟨[.int .i64 (Sp.bxA xs 0), .int .i64 (Sp.bxB xs 0), .int .i64 (Sp.bxC xs 0), .int .i64 (Sp.bxD xs 0)], 29, true, 4⟩), (3, ⟨[.int .i64 (Sp.bxA xs 1), .int .i64 (Sp.bxB xs 1), .int .i64 (Sp.bxC xs 1), .int .i64 (Sp.bxD xs 1)], 29, true, 4⟩), (4, ⟨[.int .i64 zx, .int .i64 zy], 27, true, 2⟩)] ?_ (hc := (by simp [closedB, valsB, valB, List.all_eq_true, List.mem_flatMap, List.mem_range, List.mem_map, i64v, Sp.bxc, flat1]; try (intros; simp [valsB, valB, flat1]); try decide))
            exact ih2 ((k + 1), (Sp.inbox (Sp.bxA xs 1) (Sp.bxB xs 1) (Sp.bxC xs 1) (Sp.bxD xs 1) u k)) (show ((Sp.bxB xs 0) ≤ (k + 1) ∧ (k + 1) ≤ (Sp.bxD xs 0) + 1) ∧ ((Sp.inbox (Sp.bxA xs 1) (Sp.bxB xs 1) (Sp.bxC xs 1) (Sp.bxD xs 1) u k) = true ↔ Sp.CI (Sp.bxA xs 0) (Sp.bxB xs 0) (Sp.bxC xs 0) (Sp.bxD xs 0) (Sp.bxA xs 1) (Sp.bxB xs 1) (Sp.bxC xs 1) (Sp.bxD xs 1) u (k + 1)) from ⟨by omega, by (first | exact Sp.ci_t he (by assumption) | exact Sp.ci_f he (by assumption) (by omega))⟩) (show ((Sp.bxD xs 0) + 1 - (k + 1)).toNat < ((Sp.bxD xs 0) + 1 - k).toNat from by omega)
        · have h4p : ¬ ((k ≤ (Sp.bxD xs 0))) := by first | (simpa using h4) | (have h4q := h4; simp at h4q; omega) | (have h4q := bx2 h4; simp at h4q; omega)
          refine aw_ex 2 ?_
          refine then_exit ?_
          refine then_exit ?_
          refine block_exit ?_
          refine block_normal ?_
          refine then_normal ?_
          refine aw_p1 (
            .a 1 5 <| .p (does_i (u + 1) (wrap_i64 (by omega) (by omega)) .i64) <| .a 1 5 <| .nil _ _) ?_
          refine then_normal ?_
          refine al_w [(2, .int .i64 by_), (6, .bool false), (7, .slice (some ⟨1, 0, none⟩) n 0), (8, .pointer (some ⟨2, 0, none⟩)), (9, .pointer (some ⟨3, 0, none⟩)), (10, .pointer (some ⟨4, 0, none⟩)), (11, .bool e), (12, .int .i64 (u + 1))] [(0, ⟨(xs.map i64v), 3, false, 1⟩), (1, ⟨((List.range n).flatMap (Sp.bxc xs)), 29, true, 4⟩), (2, ⟨[.int .i64 (Sp.bxA xs 0), .int .i64 (Sp.bxB xs 0), .int .i64 (Sp.bxC xs 0), .int .i64 (Sp.bxD xs 0)], 29, true, 4⟩), (3, ⟨[.int .i64 (Sp.bxA xs 1), .int .i64 (Sp.bxB xs 1), .int .i64 (Sp.bxC xs 1), .int .i64 (Sp.bxD xs 1)], 29, true, 4⟩), (4, ⟨[.int .i64 zx, .int .i64 zy], 27, true, 2⟩)] ?_ (hc := (by simp [closedB, valsB, valB, List.all_eq_true, List.mem_flatMap, List.mem_range, List.mem_map, i64v, Sp.bxc, flat1]; try (intros; simp [valsB, valB, flat1]); try decide))
          exact ih1 ((u + 1), e) (show ((Sp.bxA xs 0) ≤ (u + 1) ∧ (u + 1) ≤ (Sp.bxC xs 0) + 1) ∧ (e = true ↔ Sp.CM (Sp.bxA xs 0) (Sp.bxB xs 0) (Sp.bxC xs 0) (Sp.bxD xs 0) (Sp.bxA xs 1) (Sp.bxB xs 1) (Sp.bxC xs 1) (Sp.bxD xs 1) (u + 1)) from ⟨by omega, by exact Sp.cm_next he (by omega) (by omega)⟩) (show ((Sp.bxC xs 0) + 1 - (u + 1)).toNat < ((Sp.bxC xs 0) + 1 - u).toNat from by omega)
      · have h3p : ¬ ((u ≤ (Sp.bxC xs 0))) := by first | (simpa using h3) | (have h3q := h3; simp at h3q; omega) | (have h3q := bx2 h3; simp at h3q; omega)
        refine aw_ex 0 ?_
        refine then_exit ?_
        refine then_exit ?_
        refine block_exit ?_
        refine then_normal ?_
        have hcm : c = Sp.meet (Sp.bxA xs 0) (Sp.bxB xs 0) (Sp.bxC xs 0) (Sp.bxD xs 0) (Sp.bxA xs 1) (Sp.bxB xs 1) (Sp.bxC xs 1) (Sp.bxD xs 1) := Sp.cm_meet hc (by omega)
        refine aw_w [(2, .int .i64 by_), (6, .bool false), (7, .slice (some ⟨1, 0, none⟩) n 0), (8, .pointer (some ⟨2, 0, none⟩)), (9, .pointer (some ⟨3, 0, none⟩)), (10, .pointer (some ⟨4, 0, none⟩)), (11, .bool (Sp.meet (Sp.bxA xs 0) (Sp.bxB xs 0) (Sp.bxC xs 0) (Sp.bxD xs 0) (Sp.bxA xs 1) (Sp.bxB xs 1) (Sp.bxC xs 1) (Sp.bxD xs 1))), (12, .int .i64 u), (34, .int .i64 u), (35, .pointer (some ⟨2, 2, none⟩)), (36, .pointer (some ⟨2, 2, none⟩)), (37, .int .i64 (Sp.bxC xs 0)), (38, .bool (decide (u ≤ (Sp.bxC xs 0))))] [(0, ⟨(xs.map i64v), 3, false, 1⟩), (1, ⟨((List.range n).flatMap (Sp.bxc xs)), 29, true, 4⟩), (2, ⟨[.int .i64 (Sp.bxA xs 0), .int .i64 (Sp.bxB xs 0), .int .i64 (Sp.bxC xs 0), .int .i64 (Sp.bxD xs 0)], 29, true, 4⟩), (3, ⟨[.int .i64 (Sp.bxA xs 1), .int .i64 (Sp.bxB xs 1), .int .i64 (Sp.bxC xs 1), .int .i64 (Sp.bxD xs 1)], 29, true, 4⟩), (4, ⟨[.int .i64 zx, .int .i64 zy], 27, true, 2⟩)] ?_ (by subst hcm; kernel_rfl) (by subst hcm; kernel_rfl) (hc := (by simp [closedB, valsB, valB, List.all_eq_true, List.mem_flatMap, List.mem_range, List.mem_map, i64v, Sp.bxc, flat1]; try (intros; simp [valsB, valB, flat1]); try decide))
        refine aw_d 511 (
          .a 2 5 <| .p (does_c (join_ok (Sp.bxA xs 0) (Sp.bxB xs 0) (Sp.bxC xs 0) (Sp.bxD xs 0) (Sp.bxA xs 1) (Sp.bxB xs 1) (Sp.bxC xs 1) (Sp.bxD xs 1))) <| .a 2 5 <| .p (does_c (below_ok by_ 30 (by decide) (by decide))) <|
          .p (does_c (grow_in (Sp.bxA xs 0) (Sp.bxB xs 0) (Sp.bxC xs 0) (Sp.bxD xs 0) (by_ % 30) (by omega) (by omega) (by omega) (by omega) (by omega) (by omega) (by omega) (by omega) (by omega) (by omega))) <| .a 4 5 <| .nil _ _) ?_
        rcases Bool.eq_false_or_eq_true (!(Sp.inbox (Sp.bxA xs 0) (Sp.bxB xs 0) (Sp.bxC xs 0) (Sp.bxD xs 0) zx zy)) with h6 | h6
        · rcases Bool.eq_false_or_eq_true (!(Sp.inbox (Sp.bxA xs 1) (Sp.bxB xs 1) (Sp.bxC xs 1) (Sp.bxD xs 1) zx zy)) with h7 | h7
          · refine aw_d 1023 (
              .a 1 7 <| .p (does_cb _ (bok_ok (Sp.bxA xs 0) (Sp.bxB xs 0) (Sp.bxC xs 0) (Sp.bxD xs 0)) true (Sp.bok_small b0)) <| .a 3 7 <| .p (does_c (meet_ok (Sp.bxA xs 0) (Sp.bxB xs 0) (Sp.bxC xs 0) (Sp.bxD xs 0) (Sp.bxA xs 1) (Sp.bxB xs 1) (Sp.bxC xs 1) (Sp.bxD xs 1))) <| .a 1 7 <|
              .p (does_b true ((show ((Sp.meet (Sp.bxA xs 0) (Sp.bxB xs 0) (Sp.bxC xs 0) (Sp.bxD xs 0) (Sp.bxA xs 1) (Sp.bxB xs 1) (Sp.bxC xs 1) (Sp.bxD xs 1)) == (Sp.meet (Sp.bxA xs 0) (Sp.bxB xs 0) (Sp.bxC xs 0) (Sp.bxD xs 0) (Sp.bxA xs 1) (Sp.bxB xs 1) (Sp.bxC xs 1) (Sp.bxD xs 1))) = true from by simp))) <|
              .a 4 7 <| .p (does_c (meet_ok (Sp.bxA xs 1) (Sp.bxB xs 1) (Sp.bxC xs 1) (Sp.bxD xs 1) (Sp.bxA xs 0) (Sp.bxB xs 0) (Sp.bxC xs 0) (Sp.bxD xs 0))) <| .a 1 7 <|
              .p (does_b true ((show ((Sp.meet (Sp.bxA xs 1) (Sp.bxB xs 1) (Sp.bxC xs 1) (Sp.bxD xs 1) (Sp.bxA xs 0) (Sp.bxB xs 0) (Sp.bxC xs 0) (Sp.bxD xs 0)) == (Sp.meet (Sp.bxA xs 0) (Sp.bxB xs 0) (Sp.bxC xs 0) (Sp.bxD xs 0) (Sp.bxA xs 1) (Sp.bxB xs 1) (Sp.bxC xs 1) (Sp.bxD xs 1))) = true from (by rw [Sp.meet_comm']; simp)))) <|
              .a 4 7 <| .p (does_c (has_ok (Sp.bxA xs 0) (Sp.bxB xs 0) (Sp.bxC xs 0) (Sp.bxD xs 0) zx zy)) <| .p (does_b true (h6)) <| .a 3 7 <| .p (does_c (has_ok (Sp.bxA xs 1) (Sp.bxB xs 1) (Sp.bxC xs 1) (Sp.bxD xs 1) zx zy)) <| .p (does_b true (h7)) <| .a 10 7 <|
              .p (does_c (has_ok (Sp.bxA xs 0) (Sp.bxB xs 0) (Sp.bxC xs 0) (Sp.bxD xs 0) zx zy)) <| .p (does_b true (h6)) <| .a 9 7 <| .p (does_c (below_ok by_ 30 (by decide) (by decide))) <| .p (does_i (0 - (by_ % 30)) (wrap_i64 (by omega) (by omega)) .i64) <|
              .p (does_c (grow_in ((Sp.bxA xs 0) - (by_ % 30)) ((Sp.bxB xs 0) - (by_ % 30)) ((Sp.bxC xs 0) + (by_ % 30)) ((Sp.bxD xs 0) + (by_ % 30)) (0 - (by_ % 30)) (by omega) (by omega) (by omega) (by omega) (by omega) (by omega) (by omega) (by omega) (by omega) (by omega))) <| .a 1 7 <|
              .p (does_e true ((show ((((((Sp.bxA xs 0) - (by_ % 30)) - (0 - (by_ % 30))) == (Sp.bxA xs 0)) && (((((Sp.bxB xs 0) - (by_ % 30)) - (0 - (by_ % 30))) == (Sp.bxB xs 0)) && true)) && ((((((Sp.bxC xs 0) + (by_ % 30)) + (0 - (by_ % 30))) == (Sp.bxC xs 0)) && (((((Sp.bxD xs 0) + (by_ % 30)) + (0 - (by_ % 30))) == (Sp.bxD xs 0)) && true)) && true)) = true from (by first | (simp; done) | (simp; omega))))) <|
              .a 7 7 <|
              .p (does_callB (x := .func 15) (ars := #[.tmp 124]) (ats := #[39]) (g := 15) (vs := [.slice (some ⟨7, 0, none⟩) 2 0]) (m := 1) (r := 0) (firsts := #[]) (caps := #[]) (args0 := [.slice (some ⟨0, 0, none⟩) ([((Sp.bxA xs 0), (Sp.bxB xs 0)), ((Sp.bxC xs 0), (Sp.bxD xs 0))].length) 0]) (pre0 := [(0, ⟨(([((Sp.bxA xs 0), (Sp.bxB xs 0)), ((Sp.bxC xs 0), (Sp.bxD xs 0))]).flatMap ptc), 27, true, 2⟩)]) (post0 := [(0, ⟨(([((Sp.bxA xs 0), (Sp.bxB xs 0)), ((Sp.bxC xs 0), (Sp.bxD xs 0))]).flatMap ptc), 27, true, 2⟩)]) (pre := [(7, ⟨[.int .i64 (Sp.bxA xs 0), .int .i64 (Sp.bxB xs 0), .int .i64 (Sp.bxC xs 0), .int .i64 (Sp.bxD xs 0)], 27, true, 2⟩)]) (post := [(7, ⟨[.int .i64 (Sp.bxA xs 0), .int .i64 (Sp.bxB xs 0), .int .i64 (Sp.bxC xs 0), .int .i64 (Sp.bxD xs 0)], 27, true, 2⟩)]) (v0 := .agg #[.int .i64 (Sp.bxA xs 0), .int .i64 (Sp.bxB xs 0), .int .i64 (Sp.bxC xs 0), .int .i64 (Sp.bxD xs 0)]) (v := .agg #[.int .i64 (Sp.bxA xs 0), .int .i64 (Sp.bxB xs 0), .int .i64 (Sp.bxC xs 0), .int .i64 (Sp.bxD xs 0)]) [7] (by kernel_rfl) (by kernel_rfl) (by kernel_rfl) (by kernel_rfl) ((by have h := boxof_own ([((Sp.bxA xs 0), (Sp.bxB xs 0)), ((Sp.bxC xs 0), (Sp.bxD xs 0))]) (by simp); rw [Sp.bxo_two (Sp.bxA xs 0) (Sp.bxB xs 0) (Sp.bxC xs 0) (Sp.bxD xs 0), Sp.lim_small (x := Sp.bxA xs 0) (by omega) (by omega), Sp.lim_small (x := Sp.bxB xs 0) (by omega) (by omega), Sp.lim_small (x := Sp.bxC xs 0) (by omega) (by omega), Sp.lim_small (x := Sp.bxD xs 0) (by omega) (by omega), Sp.mn_lo (a := Sp.bxA xs 0) (by omega), Sp.mn_lo (a := Sp.bxB xs 0) (by omega), Sp.mx_hi (a := Sp.bxA xs 0) (by omega), Sp.mx_hi (a := Sp.bxB xs 0) (by omega)] at h; exact h)) (.cons (.slice _ _ _ _ _ (by decide)) .nil) ⟨rfl, ⟨rfl, rfl, rfl, (.flats (flats_pair _))⟩, trivial⟩ (by kernel_rfl) (by kernel_rfl) (by kernel_rfl) ⟨rfl, ⟨rfl, rfl, rfl, (.flats (flats_pair _))⟩, trivial⟩ (.flatB (by kernel_rfl))) <|
              .a 1 8 <| .p (does_e true ((show ((((Sp.bxA xs 0) == (Sp.bxA xs 0)) && (((Sp.bxB xs 0) == (Sp.bxB xs 0)) && true)) && ((((Sp.bxC xs 0) == (Sp.bxC xs 0)) && (((Sp.bxD xs 0) == (Sp.bxD xs 0)) && true)) && true)) = true from by simp))) <| .a 2 8 <| .nil _ _) ?_
            refine aw_rt ?_
            exact en_ret [.bool true] (by kernel_rfl)
          · refine aw_d 1023 (
              .a 1 7 <| .p (does_cb _ (bok_ok (Sp.bxA xs 0) (Sp.bxB xs 0) (Sp.bxC xs 0) (Sp.bxD xs 0)) true (Sp.bok_small b0)) <| .a 3 7 <| .p (does_c (meet_ok (Sp.bxA xs 0) (Sp.bxB xs 0) (Sp.bxC xs 0) (Sp.bxD xs 0) (Sp.bxA xs 1) (Sp.bxB xs 1) (Sp.bxC xs 1) (Sp.bxD xs 1))) <| .a 1 7 <|
              .p (does_b true ((show ((Sp.meet (Sp.bxA xs 0) (Sp.bxB xs 0) (Sp.bxC xs 0) (Sp.bxD xs 0) (Sp.bxA xs 1) (Sp.bxB xs 1) (Sp.bxC xs 1) (Sp.bxD xs 1)) == (Sp.meet (Sp.bxA xs 0) (Sp.bxB xs 0) (Sp.bxC xs 0) (Sp.bxD xs 0) (Sp.bxA xs 1) (Sp.bxB xs 1) (Sp.bxC xs 1) (Sp.bxD xs 1))) = true from by simp))) <|
              .a 4 7 <| .p (does_c (meet_ok (Sp.bxA xs 1) (Sp.bxB xs 1) (Sp.bxC xs 1) (Sp.bxD xs 1) (Sp.bxA xs 0) (Sp.bxB xs 0) (Sp.bxC xs 0) (Sp.bxD xs 0))) <| .a 1 7 <|
              .p (does_b true ((show ((Sp.meet (Sp.bxA xs 1) (Sp.bxB xs 1) (Sp.bxC xs 1) (Sp.bxD xs 1) (Sp.bxA xs 0) (Sp.bxB xs 0) (Sp.bxC xs 0) (Sp.bxD xs 0)) == (Sp.meet (Sp.bxA xs 0) (Sp.bxB xs 0) (Sp.bxC xs 0) (Sp.bxD xs 0) (Sp.bxA xs 1) (Sp.bxB xs 1) (Sp.bxC xs 1) (Sp.bxD xs 1))) = true from (by rw [Sp.meet_comm']; simp)))) <|
              .a 4 7 <| .p (does_c (has_ok (Sp.bxA xs 0) (Sp.bxB xs 0) (Sp.bxC xs 0) (Sp.bxD xs 0) zx zy)) <| .p (does_b true (h6)) <| .a 3 7 <| .p (does_c (has_ok (Sp.bxA xs 1) (Sp.bxB xs 1) (Sp.bxC xs 1) (Sp.bxD xs 1) zx zy)) <| .p (does_b false (h7)) <| .a 4 7 <|
              .p (does_cb _ (has_ok (Sp.mn (Sp.bxA xs 0) (Sp.bxA xs 1)) (Sp.mn (Sp.bxB xs 0) (Sp.bxB xs 1)) (Sp.mx (Sp.bxC xs 0) (Sp.bxC xs 1)) (Sp.mx (Sp.bxD xs 0) (Sp.bxD xs 1)) zx zy) true ((show (Sp.inbox (Sp.mn (Sp.bxA xs 0) (Sp.bxA xs 1)) (Sp.mn (Sp.bxB xs 0) (Sp.bxB xs 1)) (Sp.mx (Sp.bxC xs 0) (Sp.bxC xs 1)) (Sp.mx (Sp.bxD xs 0) (Sp.bxD xs 1)) zx zy) = true from Sp.join_has (.inr (by simpa using h7))))) <|
              .a 5 7 <| .p (does_c (has_ok (Sp.bxA xs 0) (Sp.bxB xs 0) (Sp.bxC xs 0) (Sp.bxD xs 0) zx zy)) <| .p (does_b true (h6)) <| .a 9 7 <| .p (does_c (below_ok by_ 30 (by decide) (by decide))) <| .p (does_i (0 - (by_ % 30)) (wrap_i64 (by omega) (by omega)) .i64) <|
              .p (does_c (grow_in ((Sp.bxA xs 0) - (by_ % 30)) ((Sp.bxB xs 0) - (by_ % 30)) ((Sp.bxC xs 0) + (by_ % 30)) ((Sp.bxD xs 0) + (by_ % 30)) (0 - (by_ % 30)) (by omega) (by omega) (by omega) (by omega) (by omega) (by omega) (by omega) (by omega) (by omega) (by omega))) <| .a 1 7 <|
              .p (does_e true ((show ((((((Sp.bxA xs 0) - (by_ % 30)) - (0 - (by_ % 30))) == (Sp.bxA xs 0)) && (((((Sp.bxB xs 0) - (by_ % 30)) - (0 - (by_ % 30))) == (Sp.bxB xs 0)) && true)) && ((((((Sp.bxC xs 0) + (by_ % 30)) + (0 - (by_ % 30))) == (Sp.bxC xs 0)) && (((((Sp.bxD xs 0) + (by_ % 30)) + (0 - (by_ % 30))) == (Sp.bxD xs 0)) && true)) && true)) = true from (by first | (simp; done) | (simp; omega))))) <|
              .a 7 7 <|
              .p (does_callB (x := .func 15) (ars := #[.tmp 124]) (ats := #[39]) (g := 15) (vs := [.slice (some ⟨7, 0, none⟩) 2 0]) (m := 1) (r := 0) (firsts := #[]) (caps := #[]) (args0 := [.slice (some ⟨0, 0, none⟩) ([((Sp.bxA xs 0), (Sp.bxB xs 0)), ((Sp.bxC xs 0), (Sp.bxD xs 0))].length) 0]) (pre0 := [(0, ⟨(([((Sp.bxA xs 0), (Sp.bxB xs 0)), ((Sp.bxC xs 0), (Sp.bxD xs 0))]).flatMap ptc), 27, true, 2⟩)]) (post0 := [(0, ⟨(([((Sp.bxA xs 0), (Sp.bxB xs 0)), ((Sp.bxC xs 0), (Sp.bxD xs 0))]).flatMap ptc), 27, true, 2⟩)]) (pre := [(7, ⟨[.int .i64 (Sp.bxA xs 0), .int .i64 (Sp.bxB xs 0), .int .i64 (Sp.bxC xs 0), .int .i64 (Sp.bxD xs 0)], 27, true, 2⟩)]) (post := [(7, ⟨[.int .i64 (Sp.bxA xs 0), .int .i64 (Sp.bxB xs 0), .int .i64 (Sp.bxC xs 0), .int .i64 (Sp.bxD xs 0)], 27, true, 2⟩)]) (v0 := .agg #[.int .i64 (Sp.bxA xs 0), .int .i64 (Sp.bxB xs 0), .int .i64 (Sp.bxC xs 0), .int .i64 (Sp.bxD xs 0)]) (v := .agg #[.int .i64 (Sp.bxA xs 0), .int .i64 (Sp.bxB xs 0), .int .i64 (Sp.bxC xs 0), .int .i64 (Sp.bxD xs 0)]) [7] (by kernel_rfl) (by kernel_rfl) (by kernel_rfl) (by kernel_rfl) ((by have h := boxof_own ([((Sp.bxA xs 0), (Sp.bxB xs 0)), ((Sp.bxC xs 0), (Sp.bxD xs 0))]) (by simp); rw [Sp.bxo_two (Sp.bxA xs 0) (Sp.bxB xs 0) (Sp.bxC xs 0) (Sp.bxD xs 0), Sp.lim_small (x := Sp.bxA xs 0) (by omega) (by omega), Sp.lim_small (x := Sp.bxB xs 0) (by omega) (by omega), Sp.lim_small (x := Sp.bxC xs 0) (by omega) (by omega), Sp.lim_small (x := Sp.bxD xs 0) (by omega) (by omega), Sp.mn_lo (a := Sp.bxA xs 0) (by omega), Sp.mn_lo (a := Sp.bxB xs 0) (by omega), Sp.mx_hi (a := Sp.bxA xs 0) (by omega), Sp.mx_hi (a := Sp.bxB xs 0) (by omega)] at h; exact h)) (.cons (.slice _ _ _ _ _ (by decide)) .nil) ⟨rfl, ⟨rfl, rfl, rfl, (.flats (flats_pair _))⟩, trivial⟩ (by kernel_rfl) (by kernel_rfl) (by kernel_rfl) ⟨rfl, ⟨rfl, rfl, rfl, (.flats (flats_pair _))⟩, trivial⟩ (.flatB (by kernel_rfl))) <|
              .a 1 8 <| .p (does_e true ((show ((((Sp.bxA xs 0) == (Sp.bxA xs 0)) && (((Sp.bxB xs 0) == (Sp.bxB xs 0)) && true)) && ((((Sp.bxC xs 0) == (Sp.bxC xs 0)) && (((Sp.bxD xs 0) == (Sp.bxD xs 0)) && true)) && true)) = true from by simp))) <| .a 2 8 <| .nil _ _) ?_
            refine aw_rt ?_
            exact en_ret [.bool true] (by kernel_rfl)
        · refine aw_d 1023 (
            .a 1 7 <| .p (does_cb _ (bok_ok (Sp.bxA xs 0) (Sp.bxB xs 0) (Sp.bxC xs 0) (Sp.bxD xs 0)) true (Sp.bok_small b0)) <| .a 3 7 <| .p (does_c (meet_ok (Sp.bxA xs 0) (Sp.bxB xs 0) (Sp.bxC xs 0) (Sp.bxD xs 0) (Sp.bxA xs 1) (Sp.bxB xs 1) (Sp.bxC xs 1) (Sp.bxD xs 1))) <| .a 1 7 <|
            .p (does_b true ((show ((Sp.meet (Sp.bxA xs 0) (Sp.bxB xs 0) (Sp.bxC xs 0) (Sp.bxD xs 0) (Sp.bxA xs 1) (Sp.bxB xs 1) (Sp.bxC xs 1) (Sp.bxD xs 1)) == (Sp.meet (Sp.bxA xs 0) (Sp.bxB xs 0) (Sp.bxC xs 0) (Sp.bxD xs 0) (Sp.bxA xs 1) (Sp.bxB xs 1) (Sp.bxC xs 1) (Sp.bxD xs 1))) = true from by simp))) <|
            .a 4 7 <| .p (does_c (meet_ok (Sp.bxA xs 1) (Sp.bxB xs 1) (Sp.bxC xs 1) (Sp.bxD xs 1) (Sp.bxA xs 0) (Sp.bxB xs 0) (Sp.bxC xs 0) (Sp.bxD xs 0))) <| .a 1 7 <|
            .p (does_b true ((show ((Sp.meet (Sp.bxA xs 1) (Sp.bxB xs 1) (Sp.bxC xs 1) (Sp.bxD xs 1) (Sp.bxA xs 0) (Sp.bxB xs 0) (Sp.bxC xs 0) (Sp.bxD xs 0)) == (Sp.meet (Sp.bxA xs 0) (Sp.bxB xs 0) (Sp.bxC xs 0) (Sp.bxD xs 0) (Sp.bxA xs 1) (Sp.bxB xs 1) (Sp.bxC xs 1) (Sp.bxD xs 1))) = true from (by rw [Sp.meet_comm']; simp)))) <|
            .a 4 7 <| .p (does_c (has_ok (Sp.bxA xs 0) (Sp.bxB xs 0) (Sp.bxC xs 0) (Sp.bxD xs 0) zx zy)) <| .p (does_b false (h6)) <| .a 9 7 <|
            .p (does_cb _ (has_ok (Sp.mn (Sp.bxA xs 0) (Sp.bxA xs 1)) (Sp.mn (Sp.bxB xs 0) (Sp.bxB xs 1)) (Sp.mx (Sp.bxC xs 0) (Sp.bxC xs 1)) (Sp.mx (Sp.bxD xs 0) (Sp.bxD xs 1)) zx zy) true ((show (Sp.inbox (Sp.mn (Sp.bxA xs 0) (Sp.bxA xs 1)) (Sp.mn (Sp.bxB xs 0) (Sp.bxB xs 1)) (Sp.mx (Sp.bxC xs 0) (Sp.bxC xs 1)) (Sp.mx (Sp.bxD xs 0) (Sp.bxD xs 1)) zx zy) = true from Sp.join_has (.inl (by simpa using h6))))) <|
            .a 5 7 <| .p (does_c (has_ok (Sp.bxA xs 0) (Sp.bxB xs 0) (Sp.bxC xs 0) (Sp.bxD xs 0) zx zy)) <| .p (does_b false (h6)) <| .a 3 7 <|
            .p (does_cb _ (has_ok ((Sp.bxA xs 0) - (by_ % 30)) ((Sp.bxB xs 0) - (by_ % 30)) ((Sp.bxC xs 0) + (by_ % 30)) ((Sp.bxD xs 0) + (by_ % 30)) zx zy) true ((show (Sp.inbox ((Sp.bxA xs 0) - (by_ % 30)) ((Sp.bxB xs 0) - (by_ % 30)) ((Sp.bxC xs 0) + (by_ % 30)) ((Sp.bxD xs 0) + (by_ % 30)) zx zy) = true from Sp.grow_has (by omega) (by simpa using h6)))) <|
            .a 5 7 <| .p (does_c (below_ok by_ 30 (by decide) (by decide))) <| .p (does_i (0 - (by_ % 30)) (wrap_i64 (by omega) (by omega)) .i64) <|
            .p (does_c (grow_in ((Sp.bxA xs 0) - (by_ % 30)) ((Sp.bxB xs 0) - (by_ % 30)) ((Sp.bxC xs 0) + (by_ % 30)) ((Sp.bxD xs 0) + (by_ % 30)) (0 - (by_ % 30)) (by omega) (by omega) (by omega) (by omega) (by omega) (by omega) (by omega) (by omega) (by omega) (by omega))) <| .a 1 7 <|
            .p (does_e true ((show ((((((Sp.bxA xs 0) - (by_ % 30)) - (0 - (by_ % 30))) == (Sp.bxA xs 0)) && (((((Sp.bxB xs 0) - (by_ % 30)) - (0 - (by_ % 30))) == (Sp.bxB xs 0)) && true)) && ((((((Sp.bxC xs 0) + (by_ % 30)) + (0 - (by_ % 30))) == (Sp.bxC xs 0)) && (((((Sp.bxD xs 0) + (by_ % 30)) + (0 - (by_ % 30))) == (Sp.bxD xs 0)) && true)) && true)) = true from (by first | (simp; done) | (simp; omega))))) <|
            .a 7 7 <|
            .p (does_callB (x := .func 15) (ars := #[.tmp 124]) (ats := #[39]) (g := 15) (vs := [.slice (some ⟨7, 0, none⟩) 2 0]) (m := 1) (r := 0) (firsts := #[]) (caps := #[]) (args0 := [.slice (some ⟨0, 0, none⟩) ([((Sp.bxA xs 0), (Sp.bxB xs 0)), ((Sp.bxC xs 0), (Sp.bxD xs 0))].length) 0]) (pre0 := [(0, ⟨(([((Sp.bxA xs 0), (Sp.bxB xs 0)), ((Sp.bxC xs 0), (Sp.bxD xs 0))]).flatMap ptc), 27, true, 2⟩)]) (post0 := [(0, ⟨(([((Sp.bxA xs 0), (Sp.bxB xs 0)), ((Sp.bxC xs 0), (Sp.bxD xs 0))]).flatMap ptc), 27, true, 2⟩)]) (pre := [(7, ⟨[.int .i64 (Sp.bxA xs 0), .int .i64 (Sp.bxB xs 0), .int .i64 (Sp.bxC xs 0), .int .i64 (Sp.bxD xs 0)], 27, true, 2⟩)]) (post := [(7, ⟨[.int .i64 (Sp.bxA xs 0), .int .i64 (Sp.bxB xs 0), .int .i64 (Sp.bxC xs 0), .int .i64 (Sp.bxD xs 0)], 27, true, 2⟩)]) (v0 := .agg #[.int .i64 (Sp.bxA xs 0), .int .i64 (Sp.bxB xs 0), .int .i64 (Sp.bxC xs 0), .int .i64 (Sp.bxD xs 0)]) (v := .agg #[.int .i64 (Sp.bxA xs 0), .int .i64 (Sp.bxB xs 0), .int .i64 (Sp.bxC xs 0), .int .i64 (Sp.bxD xs 0)]) [7] (by kernel_rfl) (by kernel_rfl) (by kernel_rfl) (by kernel_rfl) ((by have h := boxof_own ([((Sp.bxA xs 0), (Sp.bxB xs 0)), ((Sp.bxC xs 0), (Sp.bxD xs 0))]) (by simp); rw [Sp.bxo_two (Sp.bxA xs 0) (Sp.bxB xs 0) (Sp.bxC xs 0) (Sp.bxD xs 0), Sp.lim_small (x := Sp.bxA xs 0) (by omega) (by omega), Sp.lim_small (x := Sp.bxB xs 0) (by omega) (by omega), Sp.lim_small (x := Sp.bxC xs 0) (by omega) (by omega), Sp.lim_small (x := Sp.bxD xs 0) (by omega) (by omega), Sp.mn_lo (a := Sp.bxA xs 0) (by omega), Sp.mn_lo (a := Sp.bxB xs 0) (by omega), Sp.mx_hi (a := Sp.bxA xs 0) (by omega), Sp.mx_hi (a := Sp.bxB xs 0) (by omega)] at h; exact h)) (.cons (.slice _ _ _ _ _ (by decide)) .nil) ⟨rfl, ⟨rfl, rfl, rfl, (.flats (flats_pair _))⟩, trivial⟩ (by kernel_rfl) (by kernel_rfl) (by kernel_rfl) ⟨rfl, ⟨rfl, rfl, rfl, (.flats (flats_pair _))⟩, trivial⟩ (.flatB (by kernel_rfl))) <|
            .a 1 8 <| .p (does_e true ((show ((((Sp.bxA xs 0) == (Sp.bxA xs 0)) && (((Sp.bxB xs 0) == (Sp.bxB xs 0)) && true)) && ((((Sp.bxC xs 0) == (Sp.bxC xs 0)) && (((Sp.bxD xs 0) == (Sp.bxD xs 0)) && true)) && true)) = true from by simp))) <| .a 2 8 <| .nil _ _) ?_
          refine aw_rt ?_
          exact en_ret [.bool true] (by kernel_rfl)


end Go.Proofs.Ytmpeiinmbpjjdaa.Am
