/-
  The walk of the law CrossingsLie.
-/
import Derived.Test.YtigllakcfdoagaaProg
import Derived.Test.YtigllakcfdoagaaAm16
import Derived.Test.YtigllakcfdoagaaSg4
import Derived.Test.YtigllakcfdoagaaSg12
import Derived.Test.YtigllakcfdoagaaSx
import Derived.Test.YtigllakcfdoagaaHl
import Derived.Test.YtigllakcfdoagaaHb
namespace Go.Proofs.Ytigllakcfdoagaa.Am
open Go Go.Proofs
set_option maxRecDepth 100000
set_option maxHeartbeats 4000000
set_option linter.unusedVariables false
set_option linter.unusedSimpArgs false

theorem crossingsLie_walk (xs : List Int) (n : Nat) (hn : min (xs.length / 4) 12 = n) (hz : xs.length ≤ 9223372036854775807) (x px py : Int) (hx : AC Try.prog 75 0 [.int .i64 x] [] (.agg #[.int .i64 px, .int .i64 py]) []) (bpxl : -40 ≤ px) (cpxu : px ≤ 40) (bpyl : -40 ≤ py) (cpyu : py ≤ 40) :
    AC Try.prog 13 1 ([.slice (some ⟨0, 0, none⟩) xs.length 0, .int .i64 x]) [(0, ⟨(xs.map i64v), 3, false, 1⟩)] (.bool true) [] := by
  refine ac_in Try.func13 (fun w0 W pin => ?_)
  refine aw_p 3 (
    .a 1 1 <| .nil _ _) ?_
  refine aw_sq 6 7 ?_
  refine aw_p 13 (
    .p (does_c (h6begun_ok)) <| .a 1 1 <| .nil _ _) ?_
  refine aw_fl 27 ?_
  refine aw_sk ?_
  refine then_normal ?_
  rcases Bool.eq_false_or_eq_true (decide (n = 0)) with h1 | h1
  · have h1p : ((n = 0)) := by first | (simpa using h1) | (have h1q := h1; simp at h1q; omega) | (have h1q := bx1 h1; simp at h1q; omega)
    refine aw_p 15 (
      .a 1 1 <|
      .p (does_callB (x := .func 74) (ars := #[.tmp 21]) (ats := #[82]) (g := 74) (vs := [.slice (some ⟨0, 0, none⟩) xs.length 0]) (m := 1) (r := 0) (firsts := #[]) (caps := #[]) (args0 := [.slice (some ⟨0, 0, none⟩) xs.length 0]) (pre0 := [(0, ⟨(xs.map i64v), 3, false, 1⟩)]) (post0 := []) (pre := [(0, ⟨(xs.map i64v), 3, false, 1⟩)]) (post := []) (v0 := .slice none 0 0) (v := .slice none 0 0) [0] (by kernel_rfl) (by kernel_rfl) (by kernel_rfl) (by kernel_rfl) (segs_nil xs n hn (by omega) hz) (.cons (.slice _ _ _ _ _ (by decide)) .nil) ⟨rfl, ⟨rfl, rfl, rfl, (.flats (flats_map (fun _ => rfl) _))⟩, trivial⟩ (by kernel_rfl) (by kernel_rfl) (by kernel_rfl) trivial (.flatB (by kernel_rfl))) <|
      .a 1 1 <| .nil _ _) ?_
    refine aw_p 31 (
      .a 1 1 <| .p (does_c (hx)) <| .a 2 1 <| .nil _ _) ?_
    refine aw_sq 62 63 ?_
    refine aw_p 125 (
      .a 3 2 <| .nil _ _) ?_
    refine aw_bl 0 251 ?_
    refine aw_lp 503 ?_
    refine al_round ?_
    refine aw_p 1007 (
      .a 1 2 <| .nil _ _) ?_
    refine aw_sq 2014 2015 ?_
    refine aw_fl 4029 ?_
    refine aw_ex 0 ?_
    refine then_exit ?_
    refine then_exit ?_
    refine block_exit ?_
    refine then_normal ?_
    refine aw_p 127 (
      .a 1 2 <| .nil _ _) ?_
    refine aw_rt ?_
    exact en_ret [.bool true] (by kernel_rfl)
  · have h1p : ¬ ((n = 0)) := by first | (simpa using h1) | (have h1q := h1; simp at h1q; omega) | (have h1q := bx2 h1; simp at h1q; omega)
    refine aw_p 15 (
      .a 1 1 <|
      .p (does_callB (x := .func 74) (ars := #[.tmp 21]) (ats := #[82]) (g := 74) (vs := [.slice (some ⟨0, 0, none⟩) xs.length 0]) (m := 1) (r := 1) (firsts := #[]) (caps := #[]) (args0 := [.slice (some ⟨0, 0, none⟩) xs.length 0]) (pre0 := [(0, ⟨(xs.map i64v), 3, false, 1⟩)]) (post0 := [(1, ⟨((List.range n).flatMap (Sp.sgc xs)), 96, true, 4⟩)]) (pre := [(0, ⟨(xs.map i64v), 3, false, 1⟩)]) (post := [(1, ⟨((List.range n).flatMap (Sp.sgc xs)), 96, true, 4⟩)]) (v0 := .slice (some ⟨1, 0, none⟩) n 0) (v := .slice (some ⟨1, 0, none⟩) n 0) [0, 1] (by kernel_rfl) (by kernel_rfl) (by kernel_rfl) (by kernel_rfl) (segs_some xs n hn (by omega) hz) (.cons (.slice _ _ _ _ _ (by decide)) .nil) ⟨rfl, ⟨rfl, rfl, rfl, (.flats (flats_map (fun _ => rfl) _))⟩, trivial⟩ (by kernel_rfl) (by kernel_rfl) (by kernel_rfl) ⟨rfl, ⟨rfl, rfl, rfl, (.flats (range_flats (fun _ => rfl) _))⟩, trivial⟩ (.slice _ _ _ _ _ (by decide))) <|
      .a 1 2 <| .nil _ _) ?_
    refine aw_p 31 (
      .a 1 2 <| .p (does_c (hx)) <| .a 2 2 <| .nil _ _) ?_
    refine aw_sq 62 63 ?_
    refine aw_p 125 (
      .a 3 3 <| .nil _ _) ?_
    refine aw_bl 0 251 ?_
    refine aw_lp 503 ?_
    refine al_w [(4, .bool false), (5, .slice (some ⟨1, 0, none⟩) n 0), (6, .pointer (some ⟨2, 0, none⟩)), (25, .slice (some ⟨1, 0, none⟩) n 0), (26, .int .i64 ((n : Nat) : Int)), (27, .int .i64 ((0 : Nat) : Int))] [(0, ⟨(xs.map i64v), 3, false, 1⟩), (1, ⟨((List.range n).flatMap (Sp.sgc xs)), 96, true, 4⟩), (2, ⟨[.int .i64 px, .int .i64 py], 24, true, 2⟩)] ?_ (hc := (by simp [closedB, valsB, valB, List.all_eq_true, List.mem_flatMap, List.mem_range, List.mem_map, i64v, Sp.sgc, flat1]; try (intros; simp [valsB, valB, flat1]); try decide))
    refine al_ind (fun i : Nat => (fun (u : Nat) => mkSt 1 [(4, .bool false), (5, .slice (some ⟨1, 0, none⟩) n 0), (6, .pointer (some ⟨2, 0, none⟩)), (25, .slice (some ⟨1, 0, none⟩) n 0), (26, .int .i64 ((n : Nat) : Int)), (27, .int .i64 ((u : Nat) : Int))] [(0, ⟨(xs.map i64v), 3, false, 1⟩), (1, ⟨((List.range n).flatMap (Sp.sgc xs)), 96, true, 4⟩), (2, ⟨[.int .i64 px, .int .i64 py], 24, true, 2⟩)]) i) (fun i : Nat => (fun (u : Nat) => (u ≤ n)) i) (fun i : Nat => (fun (u : Nat) => n - u) i) (fun i hi1 ih1 => ?_) 0 (show (0 ≤ n) from by omega)
    obtain ⟨u, hv1⟩ : ∃ z, z = i := ⟨i, rfl⟩; subst hv1
    have hi1' : (u ≤ n) := hi1
    have hi : u ≤ n := hi1'
    show AL _ _ _ (mkSt 1 [(4, .bool false), (5, .slice (some ⟨1, 0, none⟩) n 0), (6, .pointer (some ⟨2, 0, none⟩)), (25, .slice (some ⟨1, 0, none⟩) n 0), (26, .int .i64 ((n : Nat) : Int)), (27, .int .i64 ((u : Nat) : Int))] [(0, ⟨(xs.map i64v), 3, false, 1⟩), (1, ⟨((List.range n).flatMap (Sp.sgc xs)), 96, true, 4⟩), (2, ⟨[.int .i64 px, .int .i64 py], 24, true, 2⟩)]) _
    refine al_round ?_
    refine aw_p 1007 (
      .a 1 3 <| .nil _ _) ?_
    refine aw_sq 2014 2015 ?_
    refine aw_cd 4028 4029 (decide (((u : Nat) : Int) < ((n : Nat) : Int))) (fun h2 => ?_) (fun h2 => ?_)
    · have h2p : ((((u : Nat) : Int) < ((n : Nat) : Int))) := by first | (simpa using h2) | (have h2q := h2; simp at h2q; omega) | (have h2q := bx1 h2; simp at h2q; omega)
      refine aw_sk ?_
      refine then_normal ?_
      refine aw_sq 4030 4031 ?_
      refine aw_bl 1 8061 ?_
      refine aw_p 16123 (
        .a 1 3 <| .p (does_indexSlice (t := 94) (x := .tmp 25) (y := .tmp 27) (k := 1) (off := 0) (n := n) (c := 0) (z := 4) (kd := .i64) (j := ((u : Nat) : Int)) (by kernel_rfl) (by kernel_rfl) (by kernel_rfl) (by kernel_rfl) (by kernel_rfl) (by omega) (by omega)) <|
        .p (does_load (t := 96) (x := .tmp 30) (k := 1) (off := (0 + (((u : Nat) : Int)).toNat * 4)) (b := ⟨((List.range n).flatMap (Sp.sgc xs)), 96, true, 4⟩) (v := .agg #[.int .i64 (Sp.sgE1 xs u), .int .i64 (Sp.sgE2 xs u), .int .i64 (Sp.sgE3 xs u), .int .i64 (Sp.sgE4 xs u)]) (by kernel_rfl) (by kernel_rfl) (by kernel_rfl) (ldV_range (z := 4) (j := u) (fun _ => rfl) (by kernel_rfl) (by kernel_rfl) (by omega) (by omega))) <|
        .a 3 3 <| .nil _ _) ?_
      refine aw_p 32247 (
        .a 2 4 <|
        .p (does_val (v' := .slice (some ⟨1, 0, none⟩) u 0) (does_slice (t := 94) (x := .tmp 32) (lo := none) (hi := some (.tmp 33)) (k := 1) (off := 0) (n := n) (c := 0) (z := 4) (l := 0) (h := ((u : Nat) : Int)) (m := u) (b := ⟨((List.range n).flatMap (Sp.sgc xs)), 96, true, 4⟩) (by kernel_rfl) (by kernel_rfl) (by kernel_rfl) (by kernel_rfl) (by kernel_rfl) (by kernel_rfl) (by kernel_rfl) (by kernel_rfl) (by omega) (by omega) (by omega) (by omega)) (by kernel_rfl)) <|
        .a 2 4 <| .nil _ _) ?_
      refine aw_bl 2 64495 ?_
      refine aw_lp 128991 ?_
      refine al_w [(4, .bool false), (5, .slice (some ⟨1, 0, none⟩) n 0), (6, .pointer (some ⟨2, 0, none⟩)), (8, .pointer (some ⟨3, 0, none⟩)), (25, .slice (some ⟨1, 0, none⟩) n 0), (26, .int .i64 ((n : Nat) : Int)), (27, .int .i64 ((u : Nat) : Int)), (34, .slice (some ⟨1, 0, none⟩) u 0), (35, .int .i64 ((u : Nat) : Int)), (36, .int .i64 ((0 : Nat) : Int))] [(0, ⟨(xs.map i64v), 3, false, 1⟩), (1, ⟨((List.range n).flatMap (Sp.sgc xs)), 96, true, 4⟩), (2, ⟨[.int .i64 px, .int .i64 py], 24, true, 2⟩), (3, ⟨[.int .i64 (Sp.sgE1 xs u), .int .i64 (Sp.sgE2 xs u), .int .i64 (Sp.sgE3 xs u), .int .i64 (Sp.sgE4 xs u)], 96, true, 2⟩)] ?_ (hc := (by simp [closedB, valsB, valB, List.all_eq_true, List.mem_flatMap, List.mem_range, List.mem_map, i64v, Sp.sgc, flat1]; try (intros; simp [valsB, valB, flat1]); try decide))
      refine al_ind (fun i : Nat => (fun (j : Nat) => mkSt 1 [(4, .bool false), (5, .slice (some ⟨1, 0, none⟩) n 0), (6, .pointer (some ⟨2, 0, none⟩)), (8, .pointer (some ⟨3, 0, none⟩)), (25, .slice (some ⟨1, 0, none⟩) n 0), (26, .int .i64 ((n : Nat) : Int)), (27, .int .i64 ((u : Nat) : Int)), (34, .slice (some ⟨1, 0, none⟩) u 0), (35, .int .i64 ((u : Nat) : Int)), (36, .int .i64 ((j : Nat) : Int))] [(0, ⟨(xs.map i64v), 3, false, 1⟩), (1, ⟨((List.range n).flatMap (Sp.sgc xs)), 96, true, 4⟩), (2, ⟨[.int .i64 px, .int .i64 py], 24, true, 2⟩), (3, ⟨[.int .i64 (Sp.sgE1 xs u), .int .i64 (Sp.sgE2 xs u), .int .i64 (Sp.sgE3 xs u), .int .i64 (Sp.sgE4 xs u)], 96, true, 2⟩)]) i) (fun i : Nat => (fun (j : Nat) => (j ≤ u)) i) (fun i : Nat => (fun (j : Nat) => u - j) i) (fun i hi2 ih2 => ?_) 0 (show (0 ≤ u) from by omega)
      obtain ⟨j, hv2⟩ : ∃ z, z = i := ⟨i, rfl⟩; subst hv2
      have hi2' : (j ≤ u) := hi2
      have hj : j ≤ u := hi2'
      show AL _ _ _ (mkSt 1 [(4, .bool false), (5, .slice (some ⟨1, 0, none⟩) n 0), (6, .pointer (some ⟨2, 0, none⟩)), (8, .pointer (some ⟨3, 0, none⟩)), (25, .slice (some ⟨1, 0, none⟩) n 0), (26, .int .i64 ((n : Nat) : Int)), (27, .int .i64 ((u : Nat) : Int)), (34, .slice (some ⟨1, 0, none⟩) u 0), (35, .int .i64 ((u : Nat) : Int)), (36, .int .i64 ((j : Nat) : Int))] [(0, ⟨(xs.map i64v), 3, false, 1⟩), (1, ⟨((List.range n).flatMap (Sp.sgc xs)), 96, true, 4⟩), (2, ⟨[.int .i64 px, .int .i64 py], 24, true, 2⟩), (3, ⟨[.int .i64 (Sp.sgE1 xs u), .int .i64 (Sp.sgE2 xs u), .int .i64 (Sp.sgE3 xs u), .int .i64 (Sp.sgE4 xs u)], 96, true, 2⟩)]) _
      refine al_round ?_
      refine aw_p 257983 (
        .a 1 4 <| .nil _ _) ?_
      refine aw_sq 515966 515967 ?_
      refine aw_cd 1031932 1031933 (decide (((j : Nat) : Int) < ((u : Nat) : Int))) (fun h3 => ?_) (fun h3 => ?_)
      · have h3p : ((((j : Nat) : Int) < ((u : Nat) : Int))) := by first | (simpa using h3) | (have h3q := h3; simp at h3q; omega) | (have h3q := bx1 h3; simp at h3q; omega)
        refine aw_sk ?_
        refine then_normal ?_
        refine aw_sq 1031934 1031935 ?_
        refine aw_bl 3 2063869 ?_
        refine aw_p 4127739 (
          .p (does_indexSlice (t := 94) (x := .tmp 34) (y := .tmp 36) (k := 1) (off := 0) (n := u) (c := 0) (z := 4) (kd := .i64) (j := ((j : Nat) : Int)) (by kernel_rfl) (by kernel_rfl) (by kernel_rfl) (by kernel_rfl) (by kernel_rfl) (by omega) (by omega)) <|
          .p (does_load (t := 96) (x := .tmp 38) (k := 1) (off := (0 + (((j : Nat) : Int)).toNat * 4)) (b := ⟨((List.range n).flatMap (Sp.sgc xs)), 96, true, 4⟩) (v := .agg #[.int .i64 (Sp.sgE1 xs j), .int .i64 (Sp.sgE2 xs j), .int .i64 (Sp.sgE3 xs j), .int .i64 (Sp.sgE4 xs j)]) (by kernel_rfl) (by kernel_rfl) (by kernel_rfl) (ldV_range (z := 4) (j := j) (fun _ => rfl) (by kernel_rfl) (by kernel_rfl) (by omega) (by omega))) <|
          .a 2 4 <| .nil _ _) ?_
        have s1 := Sp.sg_bd xs u; have s2 := Sp.sg_bd xs j
        refine aw_gen (fun z : Int × Int × Int × Int × Int × Int × Int × Int => (fun (ax : Int) (ay : Int) (bx : Int) (b_y : Int) (cx : Int) (cy : Int) (dx : Int) (dy : Int) => mkSt 1 [(4, .bool false), (5, .slice (some ⟨1, 0, none⟩) n 0), (6, .pointer (some ⟨2, 0, none⟩)), (8, .pointer (some ⟨3, 0, none⟩)), (10, .pointer (some ⟨4, 0, none⟩)), (25, .slice (some ⟨1, 0, none⟩) n 0), (26, .int .i64 ((n : Nat) : Int)), (27, .int .i64 ((u : Nat) : Int)), (34, .slice (some ⟨1, 0, none⟩) u 0), (35, .int .i64 ((u : Nat) : Int)), (36, .int .i64 ((j : Nat) : Int))] [(0, ⟨(xs.map i64v), 3, false, 1⟩), (1, ⟨((List.range n).flatMap (Sp.sgc xs)), 96, true, 4⟩), (2, ⟨[.int .i64 px, .int .i64 py], 24, true, 2⟩), (3, ⟨[.int .i64 ax, .int .i64 ay, .int .i64 bx, .int .i64 b_y], 96, true, 2⟩), (4, ⟨[.int .i64 cx, .int .i64 cy, .int .i64 dx, .int .i64 dy], 96, true, 2⟩)]) z.1 z.2.1 z.2.2.1 z.2.2.2.1 z.2.2.2.2.1 z.2.2.2.2.2.1 z.2.2.2.2.2.2.1 z.2.2.2.2.2.2.2) (fun z : Int × Int × Int × Int × Int × Int × Int × Int => (fun (ax : Int) (ay : Int) (bx : Int) (b_y : Int) (cx : Int) (cy : Int) (dx : Int) (dy : Int) => (-40 ≤ ax ∧ ax ≤ 41) ∧ (-40 ≤ ay ∧ ay ≤ 41) ∧ (-40 ≤ bx ∧ bx ≤ 41) ∧ (-40 ≤ b_y ∧ b_y ≤ 41) ∧ (-40 ≤ cx ∧ cx ≤ 41) ∧ (-40 ≤ cy ∧ cy ≤ 41) ∧ (-40 ≤ dx ∧ dx ≤ 41) ∧ (-40 ≤ dy ∧ dy ≤ 41) ∧ (ax = Sp.sgE1 xs u) ∧ (ay = Sp.sgE2 xs u) ∧ (bx = Sp.sgE3 xs u) ∧ (b_y = Sp.sgE4 xs u)) z.1 z.2.1 z.2.2.1 z.2.2.2.1 z.2.2.2.2.1 z.2.2.2.2.2.1 z.2.2.2.2.2.2.1 z.2.2.2.2.2.2.2) ((Sp.sgE1 xs u), (Sp.sgE2 xs u), (Sp.sgE3 xs u), (Sp.sgE4 xs u), (Sp.sgE1 xs j), (Sp.sgE2 xs j), (Sp.sgE3 xs j), (Sp.sgE4 xs j)) (show (-40 ≤ (Sp.sgE1 xs u) ∧ (Sp.sgE1 xs u) ≤ 41) ∧ (-40 ≤ (Sp.sgE2 xs u) ∧ (Sp.sgE2 xs u) ≤ 41) ∧ (-40 ≤ (Sp.sgE3 xs u) ∧ (Sp.sgE3 xs u) ≤ 41) ∧ (-40 ≤ (Sp.sgE4 xs u) ∧ (Sp.sgE4 xs u) ≤ 41) ∧ (-40 ≤ (Sp.sgE1 xs j) ∧ (Sp.sgE1 xs j) ≤ 41) ∧ (-40 ≤ (Sp.sgE2 xs j) ∧ (Sp.sgE2 xs j) ≤ 41) ∧ (-40 ≤ (Sp.sgE3 xs j) ∧ (Sp.sgE3 xs j) ≤ 41) ∧ (-40 ≤ (Sp.sgE4 xs j) ∧ (Sp.sgE4 xs j) ≤ 41) ∧ ((Sp.sgE1 xs u) = Sp.sgE1 xs u) ∧ ((Sp.sgE2 xs u) = Sp.sgE2 xs u) ∧ ((Sp.sgE3 xs u) = Sp.sgE3 xs u) ∧ ((Sp.sgE4 xs u) = Sp.sgE4 xs u) from ⟨by omega, by omega, by omega, by omega, by omega, by omega, by omega, by omega, by rfl, by rfl, by rfl, by rfl⟩) [(4, .bool false), (5, .slice (some ⟨1, 0, none⟩) n 0), (6, .pointer (some ⟨2, 0, none⟩)), (8, .pointer (some ⟨3, 0, none⟩)), (10, .pointer (some ⟨4, 0, none⟩)), (25, .slice (some ⟨1, 0, none⟩) n 0), (26, .int .i64 ((n : Nat) : Int)), (27, .int .i64 ((u : Nat) : Int)), (34, .slice (some ⟨1, 0, none⟩) u 0), (35, .int .i64 ((u : Nat) : Int)), (36, .int .i64 ((j : Nat) : Int))] [(0, ⟨(xs.map i64v), 3, false, 1⟩), (1, ⟨((List.range n).flatMap (Sp.sgc xs)), 96, true, 4⟩), (2, ⟨[.int .i64 px, .int .i64 py], 24, true, 2⟩), (3, ⟨[.int .i64 (Sp.sgE1 xs u), .int .i64 (Sp.sgE2 xs u), .int .i64 (Sp.sgE3 xs u), .int .i64 (Sp.sgE4 xs u)], 96, true, 2⟩), (4, ⟨[.int .i64 (Sp.sgE1 xs j), .int .i64 (Sp.sgE2 xs j), .int .i64 (Sp.sgE3 xs j), .int .i64 (Sp.sgE4 xs j)], 96, true, 2⟩)] (fun z hz => ?_) (hc := (by simp [closedB, valsB, valB, List.all_eq_true, List.mem_flatMap, List.mem_range, List.mem_map, i64v, Sp.sgc, flat1]; try (intros; simp [valsB, valB, flat1]); try decide))
        obtain ⟨ax, ay, bx, b_y, cx, cy, dx, dy⟩ := z
        have hz' : (-40 ≤ ax ∧ ax ≤ 41) ∧ (-40 ≤ ay ∧ ay ≤ 41) ∧ (-40 ≤ bx ∧ bx ≤ 41) ∧ (-40 ≤ b_y ∧ b_y ≤ 41) ∧ (-40 ≤ cx ∧ cx ≤ 41) ∧ (-40 ≤ cy ∧ cy ≤ 41) ∧ (-40 ≤ dx ∧ dx ≤ 41) ∧ (-40 ≤ dy ∧ dy ≤ 41) ∧ (ax = Sp.sgE1 xs u) ∧ (ay = Sp.sgE2 xs u) ∧ (bx = Sp.sgE3 xs u) ∧ (b_y = Sp.sgE4 xs u) := hz
        obtain ⟨hax, hay, hbx, hb_y, hcx, hcy, hdx, hdy, ex1, ex2, ex3, ex4⟩ := hz'
        clear hz
        show AW _ _ _ (mkSt 1 [(4, .bool false), (5, .slice (some ⟨1, 0, none⟩) n 0), (6, .pointer (some ⟨2, 0, none⟩)), (8, .pointer (some ⟨3, 0, none⟩)), (10, .pointer (some ⟨4, 0, none⟩)), (25, .slice (some ⟨1, 0, none⟩) n 0), (26, .int .i64 ((n : Nat) : Int)), (27, .int .i64 ((u : Nat) : Int)), (34, .slice (some ⟨1, 0, none⟩) u 0), (35, .int .i64 ((u : Nat) : Int)), (36, .int .i64 ((j : Nat) : Int))] [(0, ⟨(xs.map i64v), 3, false, 1⟩), (1, ⟨((List.range n).flatMap (Sp.sgc xs)), 96, true, 4⟩), (2, ⟨[.int .i64 px, .int .i64 py], 24, true, 2⟩), (3, ⟨[.int .i64 ax, .int .i64 ay, .int .i64 bx, .int .i64 b_y], 96, true, 2⟩), (4, ⟨[.int .i64 cx, .int .i64 cy, .int .i64 dx, .int .i64 dy], 96, true, 2⟩)]) _
        rcases Bool.eq_false_or_eq_true (decide (Sp.meetN ax ay bx b_y cx cy dx dy = 0)) with h4 | h4
        · have h4p : ((Sp.meetN ax ay bx b_y cx cy dx dy = 0)) := by first | (simpa using h4) | (have h4q := h4; simp at h4q; omega) | (have h4q := bx1 h4; simp at h4q; omega)
          refine aw_p 8255479 (
            .a 8 5 <| .p (does_c (segat0_in ax ay bx b_y cx cy dx dy (by omega) (by omega) (by omega) (by omega) (by omega) (by omega) (by omega) (by omega) (by omega) (by omega) (by omega) (by omega) (by omega) (by omega) (by omega) (by omega) (of_decide_eq_true h4))) <| .a 6 5 <| .nil _ _) ?_
          rcases Bool.eq_false_or_eq_true (Sp.onb ax ay bx b_y px py) with h7 | h7
          · refine aw_p 16510959 (
              .a 5 6 <| .p (does_cb _ (on_in ax ay bx b_y px py (by omega) (by omega) (by omega) (by omega) (by omega) (by omega) (by omega) (by omega) (by omega) (by omega) (by omega) (by omega)) true (h7)) <| .a 6 6 <|
              .p (does_cb _ (on_in cx cy dx dy px py (by omega) (by omega) (by omega) (by omega) (by omega) (by omega) (by omega) (by omega) (by omega) (by omega) (by omega) (by omega)) false ((show (Sp.onb cx cy dx dy px py) = false from (by cases hq : Sp.onb cx cy dx dy px py with | false => rfl | true => exact absurd (Sp.both_pos h7 hq) (by rw [of_decide_eq_true h4]; decide))))) <|
              .a 2 6 <| .nil _ _) ?_
            refine aw_p 33021919 (
              .a 8 6 <| .p (does_c (segmeet_in ax ay bx b_y cx cy dx dy (by omega) (by omega) (by omega) (by omega) (by omega) (by omega) (by omega) (by omega) (by omega) (by omega) (by omega) (by omega) (by omega) (by omega) (by omega) (by omega))) <| .nil _ _) ?_
            refine aw_bl 4 66043839 ?_
            refine aw_p 132087679 (
              .p (does_b true ((show ((Sp.meetN ax ay bx b_y cx cy dx dy) == 0) = true from (by rw [of_decide_eq_true h4]; decide)))) <| .a 1 6 <| .nil _ _) ?_
            refine aw_tr 264175358 ?_
            refine aw_p 528350717 (
              .a 5 6 <| .nil _ _) ?_
            refine aw_fl 1056701435 ?_
            refine aw_sk ?_
            refine block_normal ?_
            refine block_normal ?_
            refine then_normal ?_
            refine aw_w [(4, .bool false), (5, .slice (some ⟨1, 0, none⟩) n 0), (6, .pointer (some ⟨2, 0, none⟩)), (8, .pointer (some ⟨3, 0, none⟩)), (25, .slice (some ⟨1, 0, none⟩) n 0), (26, .int .i64 ((n : Nat) : Int)), (27, .int .i64 ((u : Nat) : Int)), (34, .slice (some ⟨1, 0, none⟩) u 0), (35, .int .i64 ((u : Nat) : Int)), (36, .int .i64 ((j : Nat) : Int))] [(0, ⟨(xs.map i64v), 3, false, 1⟩), (1, ⟨((List.range n).flatMap (Sp.sgc xs)), 96, true, 4⟩), (2, ⟨[.int .i64 px, .int .i64 py], 24, true, 2⟩), (3, ⟨[.int .i64 (Sp.sgE1 xs u), .int .i64 (Sp.sgE2 xs u), .int .i64 (Sp.sgE3 xs u), .int .i64 (Sp.sgE4 xs u)], 96, true, 2⟩)] ?_ (by subst ex1 ex2 ex3 ex4; kernel_rfl) (by subst ex1 ex2 ex3 ex4; kernel_rfl) (hc := (by simp [closedB, valsB, valB, List.all_eq_true, List.mem_flatMap, List.mem_range, List.mem_map, i64v, Sp.sgc, flat1]; try (intros; simp [valsB, valB, flat1]); try decide))
            refine aw_p1 (
              .p (does_i (((j : Nat) : Int) + 1) (wrap_i64 (by omega) (by omega)) .i64) <| .a 1 6 <| .nil _ _) ?_
            refine then_normal ?_
            refine al_w [(4, .bool false), (5, .slice (some ⟨1, 0, none⟩) n 0), (6, .pointer (some ⟨2, 0, none⟩)), (8, .pointer (some ⟨3, 0, none⟩)), (25, .slice (some ⟨1, 0, none⟩) n 0), (26, .int .i64 ((n : Nat) : Int)), (27, .int .i64 ((u : Nat) : Int)), (34, .slice (some ⟨1, 0, none⟩) u 0), (35, .int .i64 ((u : Nat) : Int)), (36, .int .i64 (((j + 1) : Nat) : Int))] [(0, ⟨(xs.map i64v), 3, false, 1⟩), (1, ⟨((List.range n).flatMap (Sp.sgc xs)), 96, true, 4⟩), (2, ⟨[.int .i64 px, .int .i64 py], 24, true, 2⟩), (3, ⟨[.int .i64 (Sp.sgE1 xs u), .int .i64 (Sp.sgE2 xs u), .int .i64 (Sp.sgE3 xs u), .int .i64 (Sp.sgE4 xs u)], 96, true, 2⟩)] ?_ (hc := (by simp [closedB, valsB, valB, List.all_eq_true, List.mem_flatMap, List.mem_range, List.mem_map, i64v, Sp.sgc, flat1]; try (intros; simp [valsB, valB, flat1]); try decide))
            exact ih2 (j + 1) (show ((j + 1) ≤ u) from by omega) (show u - (j + 1) < u - j from by omega)
          · refine aw_p 16510959 (
              .a 5 6 <| .p (does_cb _ (on_in ax ay bx b_y px py (by omega) (by omega) (by omega) (by omega) (by omega) (by omega) (by omega) (by omega) (by omega) (by omega) (by omega) (by omega)) false (h7)) <| .a 9 6 <| .nil _ _) ?_
            refine aw_p 33021919 (
              .a 8 6 <| .p (does_c (segmeet_in ax ay bx b_y cx cy dx dy (by omega) (by omega) (by omega) (by omega) (by omega) (by omega) (by omega) (by omega) (by omega) (by omega) (by omega) (by omega) (by omega) (by omega) (by omega) (by omega))) <| .nil _ _) ?_
            refine aw_bl 4 66043839 ?_
            refine aw_p 132087679 (
              .p (does_b true ((show ((Sp.meetN ax ay bx b_y cx cy dx dy) == 0) = true from (by rw [of_decide_eq_true h4]; decide)))) <| .a 1 6 <| .nil _ _) ?_
            refine aw_tr 264175358 ?_
            refine aw_p 528350717 (
              .a 5 6 <| .nil _ _) ?_
            refine aw_fl 1056701435 ?_
            refine aw_sk ?_
            refine block_normal ?_
            refine block_normal ?_
            refine then_normal ?_
            refine aw_w [(4, .bool false), (5, .slice (some ⟨1, 0, none⟩) n 0), (6, .pointer (some ⟨2, 0, none⟩)), (8, .pointer (some ⟨3, 0, none⟩)), (25, .slice (some ⟨1, 0, none⟩) n 0), (26, .int .i64 ((n : Nat) : Int)), (27, .int .i64 ((u : Nat) : Int)), (34, .slice (some ⟨1, 0, none⟩) u 0), (35, .int .i64 ((u : Nat) : Int)), (36, .int .i64 ((j : Nat) : Int))] [(0, ⟨(xs.map i64v), 3, false, 1⟩), (1, ⟨((List.range n).flatMap (Sp.sgc xs)), 96, true, 4⟩), (2, ⟨[.int .i64 px, .int .i64 py], 24, true, 2⟩), (3, ⟨[.int .i64 (Sp.sgE1 xs u), .int .i64 (Sp.sgE2 xs u), .int .i64 (Sp.sgE3 xs u), .int .i64 (Sp.sgE4 xs u)], 96, true, 2⟩)] ?_ (by subst ex1 ex2 ex3 ex4; kernel_rfl) (by subst ex1 ex2 ex3 ex4; kernel_rfl) (hc := (by simp [closedB, valsB, valB, List.all_eq_true, List.mem_flatMap, List.mem_range, List.mem_map, i64v, Sp.sgc, flat1]; try (intros; simp [valsB, valB, flat1]); try decide))
            refine aw_p1 (
              .p (does_i (((j : Nat) : Int) + 1) (wrap_i64 (by omega) (by omega)) .i64) <| .a 1 6 <| .nil _ _) ?_
            refine then_normal ?_
            refine al_w [(4, .bool false), (5, .slice (some ⟨1, 0, none⟩) n 0), (6, .pointer (some ⟨2, 0, none⟩)), (8, .pointer (some ⟨3, 0, none⟩)), (25, .slice (some ⟨1, 0, none⟩) n 0), (26, .int .i64 ((n : Nat) : Int)), (27, .int .i64 ((u : Nat) : Int)), (34, .slice (some ⟨1, 0, none⟩) u 0), (35, .int .i64 ((u : Nat) : Int)), (36, .int .i64 (((j + 1) : Nat) : Int))] [(0, ⟨(xs.map i64v), 3, false, 1⟩), (1, ⟨((List.range n).flatMap (Sp.sgc xs)), 96, true, 4⟩), (2, ⟨[.int .i64 px, .int .i64 py], 24, true, 2⟩), (3, ⟨[.int .i64 (Sp.sgE1 xs u), .int .i64 (Sp.sgE2 xs u), .int .i64 (Sp.sgE3 xs u), .int .i64 (Sp.sgE4 xs u)], 96, true, 2⟩)] ?_ (hc := (by simp [closedB, valsB, valB, List.all_eq_true, List.mem_flatMap, List.mem_range, List.mem_map, i64v, Sp.sgc, flat1]; try (intros; simp [valsB, valB, flat1]); try decide))
            exact ih2 (j + 1) (show ((j + 1) ≤ u) from by omega) (show u - (j + 1) < u - j from by omega)
        · have h4p : ¬ ((Sp.meetN ax ay bx b_y cx cy dx dy = 0)) := by first | (simpa using h4) | (have h4q := h4; simp at h4q; omega) | (have h4q := bx2 h4; simp at h4q; omega)
          rcases Bool.eq_false_or_eq_true (decide (Sp.meetN ax ay bx b_y cx cy dx dy = 2)) with h5 | h5
          · have h5p : ((Sp.meetN ax ay bx b_y cx cy dx dy = 2)) := by first | (simpa using h5) | (have h5q := h5; simp at h5q; omega) | (have h5q := bx1 h5; simp at h5q; omega)
            refine aw_p 8255479 (
              .a 8 5 <| .p (does_c (segat2_in ax ay bx b_y cx cy dx dy (by omega) (by omega) (by omega) (by omega) (by omega) (by omega) (by omega) (by omega) (by omega) (by omega) (by omega) (by omega) (by omega) (by omega) (by omega) (by omega) (of_decide_eq_true h5))) <| .a 6 5 <| .nil _ _) ?_
            rcases Bool.eq_false_or_eq_true (Sp.onb ax ay bx b_y px py) with h8 | h8
            · refine aw_p 16510959 (
                .a 5 6 <| .p (does_cb _ (on_in ax ay bx b_y px py (by omega) (by omega) (by omega) (by omega) (by omega) (by omega) (by omega) (by omega) (by omega) (by omega) (by omega) (by omega)) true (h8)) <| .a 6 6 <|
                .p (does_c (on_in cx cy dx dy px py (by omega) (by omega) (by omega) (by omega) (by omega) (by omega) (by omega) (by omega) (by omega) (by omega) (by omega) (by omega))) <| .a 2 6 <| .nil _ _) ?_
              refine aw_p 33021919 (
                .a 8 6 <| .p (does_c (segmeet_in ax ay bx b_y cx cy dx dy (by omega) (by omega) (by omega) (by omega) (by omega) (by omega) (by omega) (by omega) (by omega) (by omega) (by omega) (by omega) (by omega) (by omega) (by omega) (by omega))) <| .nil _ _) ?_
              refine aw_bl 4 66043839 ?_
              refine aw_p 132087679 (
                .p (does_b false ((beq_eq_false_iff_ne.2 (of_decide_eq_false h4)))) <| .a 1 6 <| .nil _ _) ?_
              refine aw_fl 264175359 ?_
              refine aw_p 528350719 (
                .p (does_b false ((show ((Sp.meetN ax ay bx b_y cx cy dx dy) == 1) = false from (by rw [of_decide_eq_true h5]; decide)))) <| .a 1 6 <| .nil _ _) ?_
              refine aw_fl 1056701439 ?_
              refine aw_p 2113402879 (
                .a 2 6 <| .nil _ _) ?_
              refine aw_fl 4226805759 ?_
              refine aw_sk ?_
              refine block_normal ?_
              refine block_normal ?_
              refine then_normal ?_
              refine aw_w [(4, .bool false), (5, .slice (some ⟨1, 0, none⟩) n 0), (6, .pointer (some ⟨2, 0, none⟩)), (8, .pointer (some ⟨3, 0, none⟩)), (25, .slice (some ⟨1, 0, none⟩) n 0), (26, .int .i64 ((n : Nat) : Int)), (27, .int .i64 ((u : Nat) : Int)), (34, .slice (some ⟨1, 0, none⟩) u 0), (35, .int .i64 ((u : Nat) : Int)), (36, .int .i64 ((j : Nat) : Int))] [(0, ⟨(xs.map i64v), 3, false, 1⟩), (1, ⟨((List.range n).flatMap (Sp.sgc xs)), 96, true, 4⟩), (2, ⟨[.int .i64 px, .int .i64 py], 24, true, 2⟩), (3, ⟨[.int .i64 (Sp.sgE1 xs u), .int .i64 (Sp.sgE2 xs u), .int .i64 (Sp.sgE3 xs u), .int .i64 (Sp.sgE4 xs u)], 96, true, 2⟩)] ?_ (by subst ex1 ex2 ex3 ex4; kernel_rfl) (by subst ex1 ex2 ex3 ex4; kernel_rfl) (hc := (by simp [closedB, valsB, valB, List.all_eq_true, List.mem_flatMap, List.mem_range, List.mem_map, i64v, Sp.sgc, flat1]; try (intros; simp [valsB, valB, flat1]); try decide))
              refine aw_p1 (
                .p (does_i (((j : Nat) : Int) + 1) (wrap_i64 (by omega) (by omega)) .i64) <| .a 1 6 <| .nil _ _) ?_
              refine then_normal ?_
              refine al_w [(4, .bool false), (5, .slice (some ⟨1, 0, none⟩) n 0), (6, .pointer (some ⟨2, 0, none⟩)), (8, .pointer (some ⟨3, 0, none⟩)), (25, .slice (some ⟨1, 0, none⟩) n 0), (26, .int .i64 ((n : Nat) : Int)), (27, .int .i64 ((u : Nat) : Int)), (34, .slice (some ⟨1, 0, none⟩) u 0), (35, .int .i64 ((u : Nat) : Int)), (36, .int .i64 (((j + 1) : Nat) : Int))] [(0, ⟨(xs.map i64v), 3, false, 1⟩), (1, ⟨((List.range n).flatMap (Sp.sgc xs)), 96, true, 4⟩), (2, ⟨[.int .i64 px, .int .i64 py], 24, true, 2⟩), (3, ⟨[.int .i64 (Sp.sgE1 xs u), .int .i64 (Sp.sgE2 xs u), .int .i64 (Sp.sgE3 xs u), .int .i64 (Sp.sgE4 xs u)], 96, true, 2⟩)] ?_ (hc := (by simp [closedB, valsB, valB, List.all_eq_true, List.mem_flatMap, List.mem_range, List.mem_map, i64v, Sp.sgc, flat1]; try (intros; simp [valsB, valB, flat1]); try decide))
              exact ih2 (j + 1) (show ((j + 1) ≤ u) from by omega) (show u - (j + 1) < u - j from by omega)
            · refine aw_p 16510959 (
                .a 5 6 <| .p (does_cb _ (on_in ax ay bx b_y px py (by omega) (by omega) (by omega) (by omega) (by omega) (by omega) (by omega) (by omega) (by omega) (by omega) (by omega) (by omega)) false (h8)) <| .a 9 6 <| .nil _ _) ?_
              refine aw_p 33021919 (
                .a 8 6 <| .p (does_c (segmeet_in ax ay bx b_y cx cy dx dy (by omega) (by omega) (by omega) (by omega) (by omega) (by omega) (by omega) (by omega) (by omega) (by omega) (by omega) (by omega) (by omega) (by omega) (by omega) (by omega))) <| .nil _ _) ?_
              refine aw_bl 4 66043839 ?_
              refine aw_p 132087679 (
                .p (does_b false ((beq_eq_false_iff_ne.2 (of_decide_eq_false h4)))) <| .a 1 6 <| .nil _ _) ?_
              refine aw_fl 264175359 ?_
              refine aw_p 528350719 (
                .p (does_b false ((show ((Sp.meetN ax ay bx b_y cx cy dx dy) == 1) = false from (by rw [of_decide_eq_true h5]; decide)))) <| .a 1 6 <| .nil _ _) ?_
              refine aw_fl 1056701439 ?_
              refine aw_p 2113402879 (
                .a 2 6 <| .nil _ _) ?_
              refine aw_fl 4226805759 ?_
              refine aw_sk ?_
              refine block_normal ?_
              refine block_normal ?_
              refine then_normal ?_
              refine aw_w [(4, .bool false), (5, .slice (some ⟨1, 0, none⟩) n 0), (6, .pointer (some ⟨2, 0, none⟩)), (8, .pointer (some ⟨3, 0, none⟩)), (25, .slice (some ⟨1, 0, none⟩) n 0), (26, .int .i64 ((n : Nat) : Int)), (27, .int .i64 ((u : Nat) : Int)), (34, .slice (some ⟨1, 0, none⟩) u 0), (35, .int .i64 ((u : Nat) : Int)), (36, .int .i64 ((j : Nat) : Int))] [(0, ⟨(xs.map i64v), 3, false, 1⟩), (1, ⟨((List.range n).flatMap (Sp.sgc xs)), 96, true, 4⟩), (2, ⟨[.int .i64 px, .int .i64 py], 24, true, 2⟩), (3, ⟨[.int .i64 (Sp.sgE1 xs u), .int .i64 (Sp.sgE2 xs u), .int .i64 (Sp.sgE3 xs u), .int .i64 (Sp.sgE4 xs u)], 96, true, 2⟩)] ?_ (by subst ex1 ex2 ex3 ex4; kernel_rfl) (by subst ex1 ex2 ex3 ex4; kernel_rfl) (hc := (by simp [closedB, valsB, valB, List.all_eq_true, List.mem_flatMap, List.mem_range, List.mem_map, i64v, Sp.sgc, flat1]; try (intros; simp [valsB, valB, flat1]); try decide))
              refine aw_p1 (
                .p (does_i (((j : Nat) : Int) + 1) (wrap_i64 (by omega) (by omega)) .i64) <| .a 1 6 <| .nil _ _) ?_
              refine then_normal ?_
              refine al_w [(4, .bool false), (5, .slice (some ⟨1, 0, none⟩) n 0), (6, .pointer (some ⟨2, 0, none⟩)), (8, .pointer (some ⟨3, 0, none⟩)), (25, .slice (some ⟨1, 0, none⟩) n 0), (26, .int .i64 ((n : Nat) : Int)), (27, .int .i64 ((u : Nat) : Int)), (34, .slice (some ⟨1, 0, none⟩) u 0), (35, .int .i64 ((u : Nat) : Int)), (36, .int .i64 (((j + 1) : Nat) : Int))] [(0, ⟨(xs.map i64v), 3, false, 1⟩), (1, ⟨((List.range n).flatMap (Sp.sgc xs)), 96, true, 4⟩), (2, ⟨[.int .i64 px, .int .i64 py], 24, true, 2⟩), (3, ⟨[.int .i64 (Sp.sgE1 xs u), .int .i64 (Sp.sgE2 xs u), .int .i64 (Sp.sgE3 xs u), .int .i64 (Sp.sgE4 xs u)], 96, true, 2⟩)] ?_ (hc := (by simp [closedB, valsB, valB, List.all_eq_true, List.mem_flatMap, List.mem_range, List.mem_map, i64v, Sp.sgc, flat1]; try (intros; simp [valsB, valB, flat1]); try decide))
              exact ih2 (j + 1) (show ((j + 1) ≤ u) from by omega) (show u - (j + 1) < u - j from by omega)
          · have h5p : ¬ ((Sp.meetN ax ay bx b_y cx cy dx dy = 2)) := by first | (simpa using h5) | (have h5q := h5; simp at h5q; omega) | (have h5q := bx2 h5; simp at h5q; omega)
            rcases Bool.eq_false_or_eq_true (Sp.prp ax ay bx b_y cx cy dx dy) with h6 | h6
            · have cb := Sp.cp41 h6 (by omega) (by omega) (by omega) (by omega) (by omega) (by omega) (by omega) (by omega) (by omega) (by omega) (by omega) (by omega) (by omega) (by omega) (by omega) (by omega)
              refine aw_p 8255479 (
                .a 8 5 <| .p (does_c (segatX_in ax ay bx b_y cx cy dx dy (by omega) (by omega) (by omega) (by omega) (by omega) (by omega) (by omega) (by omega) (by omega) (by omega) (by omega) (by omega) (by omega) (by omega) (by omega) (by omega) h6)) <| .a 6 5 <| .nil _ _) ?_
              rcases Bool.eq_false_or_eq_true (Sp.onb ax ay bx b_y px py) with h9 | h9
              · refine aw_p 16510959 (
                  .a 5 6 <| .p (does_cb _ (on_in ax ay bx b_y px py (by omega) (by omega) (by omega) (by omega) (by omega) (by omega) (by omega) (by omega) (by omega) (by omega) (by omega) (by omega)) true (h9)) <| .a 6 6 <|
                  .p (does_c (on_in cx cy dx dy px py (by omega) (by omega) (by omega) (by omega) (by omega) (by omega) (by omega) (by omega) (by omega) (by omega) (by omega) (by omega))) <| .a 2 6 <| .nil _ _) ?_
                refine aw_p 33021919 (
                  .a 8 6 <| .p (does_c (segmeet_in ax ay bx b_y cx cy dx dy (by omega) (by omega) (by omega) (by omega) (by omega) (by omega) (by omega) (by omega) (by omega) (by omega) (by omega) (by omega) (by omega) (by omega) (by omega) (by omega))) <| .nil _ _) ?_
                refine aw_bl 4 66043839 ?_
                refine aw_p 132087679 (
                  .p (does_b false ((beq_eq_false_iff_ne.2 (of_decide_eq_false h4)))) <| .a 1 6 <| .nil _ _) ?_
                refine aw_fl 264175359 ?_
                refine aw_p 528350719 (
                  .p (does_b true ((show ((Sp.meetN ax ay bx b_y cx cy dx dy) == 1) = true from (by rw [Sp.meetN_prp h6]; rfl)))) <| .a 1 6 <| .nil _ _) ?_
                refine aw_tr 1056701438 ?_
                refine aw_p 2113402877 (
                  .a 1 6 <|
                  .p (does_c ((by have h := segsnap_ok (Sp.qn (Sp.cpx ax ay bx b_y cx cy dx dy)) (Sp.qd (Sp.cpx ax ay bx b_y cx cy dx dy)) (by have := Sp.qn_bd (Sp.cpx ax ay bx b_y cx cy dx dy); omega) (by have := Sp.qn_bd (Sp.cpx ax ay bx b_y cx cy dx dy); omega) (by have := Sp.qd_bd (Sp.cpx ax ay bx b_y cx cy dx dy); omega) (by have := Sp.qd_bd (Sp.cpx ax ay bx b_y cx cy dx dy); omega) (Sp.qn (Sp.cpy ax ay bx b_y cx cy dx dy)) (Sp.qd (Sp.cpy ax ay bx b_y cx cy dx dy)) (by have := Sp.qn_bd (Sp.cpy ax ay bx b_y cx cy dx dy); omega) (by have := Sp.qn_bd (Sp.cpy ax ay bx b_y cx cy dx dy); omega) (by have := Sp.qd_bd (Sp.cpy ax ay bx b_y cx cy dx dy); omega) (by have := Sp.qd_bd (Sp.cpy ax ay bx b_y cx cy dx dy); omega); rw [(Sp.rv_fit (q := (Sp.cpx ax ay bx b_y cx cy dx dy)) (Sp.bd_fit cb.1.1 (by decide) (by decide))), (Sp.rv_fit (q := (Sp.cpy ax ay bx b_y cx cy dx dy)) (Sp.bd_fit cb.1.2 (by decide) (by decide))), Sp.lim_id (m := 1048576) (n := Sp.rnd (Sp.cpx ax ay bx b_y cx cy dx dy)) (by omega) (by omega), Sp.lim_id (m := 1048576) (n := Sp.rnd (Sp.cpy ax ay bx b_y cx cy dx dy)) (by omega) (by omega)] at h; exact h))) <|
                  .a 2 6 <| .nil _ _) ?_
                refine aw_d 4226805755 (
                  .a 4 7 <| .p (does_c ((by have h := fof_ok (Sp.rnd (Sp.cpx ax ay bx b_y cx cy dx dy)); rw [Sp.mx_id (by omega)] at h; exact h))) <|
                  .p (does_c ((by have h := fsub_ok (Sp.qn (Sp.cpx ax ay bx b_y cx cy dx dy)) (Sp.qd (Sp.cpx ax ay bx b_y cx cy dx dy)) (by have := Sp.qn_bd (Sp.cpx ax ay bx b_y cx cy dx dy); omega) (by have := Sp.qn_bd (Sp.cpx ax ay bx b_y cx cy dx dy); omega) (by have := Sp.qd_bd (Sp.cpx ax ay bx b_y cx cy dx dy); omega) (by have := Sp.qd_bd (Sp.cpx ax ay bx b_y cx cy dx dy); omega) (Sp.rnd (Sp.cpx ax ay bx b_y cx cy dx dy)) 1 (by omega) (by omega) (by decide) (by decide); rw [(Sp.rv_fit (q := (Sp.cpx ax ay bx b_y cx cy dx dy)) (Sp.bd_fit cb.1.1 (by decide) (by decide))), (Sp.rv_int (Sp.rnd (Sp.cpx ax ay bx b_y cx cy dx dy)) (by omega)), (Sp.qe_fit (q := ((Sp.cpx ax ay bx b_y cx cy dx dy) + (-((Sp.rnd (Sp.cpx ax ay bx b_y cx cy dx dy) : Int) : Rat)))) (Sp.bd_fit (Sp.Bd.add cb.1.1 (Sp.Bd.neg (Sp.Bd.mono (N' := 41) (D' := 1) (Sp.Bd.int (Sp.rnd (Sp.cpx ax ay bx b_y cx cy dx dy))) (by omega) (by decide)))) (by decide) (by decide)))] at h; exact h))) <|
                  .a 6 7 <| .nil _ _) ?_
                refine aw_p 8453611511 (
                  .p (does_c ((by have h := fmake_ok 1 2 (by decide) (by decide) (by decide) (by decide); rw [show Sp.dvn ((1 : Int) : Rat) ((2 : Int) : Rat) = 1 from by decide +kernel, show Sp.dvd ((1 : Int) : Rat) ((2 : Int) : Rat) = 2 from by decide +kernel, show Sp.dve ((1 : Int) : Rat) ((2 : Int) : Rat) = 0 from by decide +kernel] at h; exact h))) <|
                  .a 6 8 <| .nil _ _) ?_
                rcases Bool.eq_false_or_eq_true (Sp.onb cx cy dx dy px py) with h10 | h10
                · refine aw_d 16907223023 (
                    .a 12 9 <|
                    .p (does_cb _ ((by have h := h6line_ok ax ay bx b_y (by omega) (by omega) (by omega) (by omega) (by omega) (by omega) (by omega) (by omega) (Sp.qn (Sp.cpx ax ay bx b_y cx cy dx dy)) (Sp.qd (Sp.cpx ax ay bx b_y cx cy dx dy)) (by have := Sp.qn_bd (Sp.cpx ax ay bx b_y cx cy dx dy); omega) (by have := Sp.qn_bd (Sp.cpx ax ay bx b_y cx cy dx dy); omega) (by have := Sp.qd_bd (Sp.cpx ax ay bx b_y cx cy dx dy); omega) (by have := Sp.qd_bd (Sp.cpx ax ay bx b_y cx cy dx dy); omega) (Sp.qn (Sp.cpy ax ay bx b_y cx cy dx dy)) (Sp.qd (Sp.cpy ax ay bx b_y cx cy dx dy)) (by have := Sp.qn_bd (Sp.cpy ax ay bx b_y cx cy dx dy); omega) (by have := Sp.qn_bd (Sp.cpy ax ay bx b_y cx cy dx dy); omega) (by have := Sp.qd_bd (Sp.cpy ax ay bx b_y cx cy dx dy); omega) (by have := Sp.qd_bd (Sp.cpy ax ay bx b_y cx cy dx dy); omega) (by rw [(Sp.rv_fit (q := (Sp.cpx ax ay bx b_y cx cy dx dy)) (Sp.bd_fit cb.1.1 (by decide) (by decide)))]; exact (Sp.Bd.mono (N' := 551368) (D' := 13448) cb.1.1 (by decide) (by decide))) (by rw [(Sp.rv_fit (q := (Sp.cpy ax ay bx b_y cx cy dx dy)) (Sp.bd_fit cb.1.2 (by decide) (by decide)))]; exact (Sp.Bd.mono (N' := 551368) (D' := 13448) cb.1.2 (by decide) (by decide))); rw [(Sp.rv_fit (q := (Sp.cpx ax ay bx b_y cx cy dx dy)) (Sp.bd_fit cb.1.1 (by decide) (by decide))), (Sp.rv_fit (q := (Sp.cpy ax ay bx b_y cx cy dx dy)) (Sp.bd_fit cb.1.2 (by decide) (by decide)))] at h; exact h)) true ((decide_eq_true (Sp.l6_ab h6)))) <|
                    .a 8 9 <|
                    .p (does_cb _ ((by have h := h6line_ok cx cy dx dy (by omega) (by omega) (by omega) (by omega) (by omega) (by omega) (by omega) (by omega) (Sp.qn (Sp.cpx ax ay bx b_y cx cy dx dy)) (Sp.qd (Sp.cpx ax ay bx b_y cx cy dx dy)) (by have := Sp.qn_bd (Sp.cpx ax ay bx b_y cx cy dx dy); omega) (by have := Sp.qn_bd (Sp.cpx ax ay bx b_y cx cy dx dy); omega) (by have := Sp.qd_bd (Sp.cpx ax ay bx b_y cx cy dx dy); omega) (by have := Sp.qd_bd (Sp.cpx ax ay bx b_y cx cy dx dy); omega) (Sp.qn (Sp.cpy ax ay bx b_y cx cy dx dy)) (Sp.qd (Sp.cpy ax ay bx b_y cx cy dx dy)) (by have := Sp.qn_bd (Sp.cpy ax ay bx b_y cx cy dx dy); omega) (by have := Sp.qn_bd (Sp.cpy ax ay bx b_y cx cy dx dy); omega) (by have := Sp.qd_bd (Sp.cpy ax ay bx b_y cx cy dx dy); omega) (by have := Sp.qd_bd (Sp.cpy ax ay bx b_y cx cy dx dy); omega) (by rw [(Sp.rv_fit (q := (Sp.cpx ax ay bx b_y cx cy dx dy)) (Sp.bd_fit cb.1.1 (by decide) (by decide)))]; exact (Sp.Bd.mono (N' := 551368) (D' := 13448) cb.1.1 (by decide) (by decide))) (by rw [(Sp.rv_fit (q := (Sp.cpy ax ay bx b_y cx cy dx dy)) (Sp.bd_fit cb.1.2 (by decide) (by decide)))]; exact (Sp.Bd.mono (N' := 551368) (D' := 13448) cb.1.2 (by decide) (by decide))); rw [(Sp.rv_fit (q := (Sp.cpx ax ay bx b_y cx cy dx dy)) (Sp.bd_fit cb.1.1 (by decide) (by decide))), (Sp.rv_fit (q := (Sp.cpy ax ay bx b_y cx cy dx dy)) (Sp.bd_fit cb.1.2 (by decide) (by decide)))] at h; exact h)) true ((decide_eq_true (Sp.l6_cd h6)))) <|
                    .a 4 9 <|
                    .p (does_c ((by have h := fabs_ok (Sp.qn ((Sp.cpx ax ay bx b_y cx cy dx dy) + (-((Sp.rnd (Sp.cpx ax ay bx b_y cx cy dx dy) : Int) : Rat)))) (Sp.qd ((Sp.cpx ax ay bx b_y cx cy dx dy) + (-((Sp.rnd (Sp.cpx ax ay bx b_y cx cy dx dy) : Int) : Rat)))) (by have := Sp.qn_bd ((Sp.cpx ax ay bx b_y cx cy dx dy) + (-((Sp.rnd (Sp.cpx ax ay bx b_y cx cy dx dy) : Int) : Rat))); omega) (by have := Sp.qn_bd ((Sp.cpx ax ay bx b_y cx cy dx dy) + (-((Sp.rnd (Sp.cpx ax ay bx b_y cx cy dx dy) : Int) : Rat))); omega) (by have := Sp.qd_bd ((Sp.cpx ax ay bx b_y cx cy dx dy) + (-((Sp.rnd (Sp.cpx ax ay bx b_y cx cy dx dy) : Int) : Rat))); omega) (by have := Sp.qd_bd ((Sp.cpx ax ay bx b_y cx cy dx dy) + (-((Sp.rnd (Sp.cpx ax ay bx b_y cx cy dx dy) : Int) : Rat))); omega); rw [(Sp.rv_fit (q := ((Sp.cpx ax ay bx b_y cx cy dx dy) + (-((Sp.rnd (Sp.cpx ax ay bx b_y cx cy dx dy) : Int) : Rat)))) (Sp.bd_fit (Sp.Bd.add cb.1.1 (Sp.Bd.neg (Sp.Bd.mono (N' := 41) (D' := 1) (Sp.Bd.int (Sp.rnd (Sp.cpx ax ay bx b_y cx cy dx dy))) (by omega) (by decide)))) (by decide) (by decide)))] at h; exact h))) <|
                    .a 1 9 <|
                    .p (does_c ((by have h := fcmp_ok (Sp.qn (Sp.rabs ((Sp.cpx ax ay bx b_y cx cy dx dy) + (-((Sp.rnd (Sp.cpx ax ay bx b_y cx cy dx dy) : Int) : Rat))))) (Sp.qd (Sp.rabs ((Sp.cpx ax ay bx b_y cx cy dx dy) + (-((Sp.rnd (Sp.cpx ax ay bx b_y cx cy dx dy) : Int) : Rat))))) (by have := Sp.qn_bd (Sp.rabs ((Sp.cpx ax ay bx b_y cx cy dx dy) + (-((Sp.rnd (Sp.cpx ax ay bx b_y cx cy dx dy) : Int) : Rat)))); omega) (by have := Sp.qn_bd (Sp.rabs ((Sp.cpx ax ay bx b_y cx cy dx dy) + (-((Sp.rnd (Sp.cpx ax ay bx b_y cx cy dx dy) : Int) : Rat)))); omega) (by have := Sp.qd_bd (Sp.rabs ((Sp.cpx ax ay bx b_y cx cy dx dy) + (-((Sp.rnd (Sp.cpx ax ay bx b_y cx cy dx dy) : Int) : Rat)))); omega) (by have := Sp.qd_bd (Sp.rabs ((Sp.cpx ax ay bx b_y cx cy dx dy) + (-((Sp.rnd (Sp.cpx ax ay bx b_y cx cy dx dy) : Int) : Rat)))); omega) 1 2 (by decide) (by decide) (by decide) (by decide); rw [(Sp.rv_fit (q := (Sp.rabs ((Sp.cpx ax ay bx b_y cx cy dx dy) + (-((Sp.rnd (Sp.cpx ax ay bx b_y cx cy dx dy) : Int) : Rat))))) (Sp.fitq_abs (Sp.bd_fit (Sp.Bd.add cb.1.1 (Sp.Bd.neg (Sp.Bd.mono (N' := 41) (D' := 1) (Sp.Bd.int (Sp.rnd (Sp.cpx ax ay bx b_y cx cy dx dy))) (by omega) (by decide)))) (by decide) (by decide))))] at h; exact h))) <|
                    .p (does_b false (((Sp.rcmp_pos (Sp.rabs ((Sp.cpx ax ay bx b_y cx cy dx dy) + (-((Sp.rnd (Sp.cpx ax ay bx b_y cx cy dx dy) : Int) : Rat)))) (Sp.rv 1 2))).trans ((decide_eq_false (Rat.not_lt.2 (Sp.rnd_half _)))))) <| .a 2 9 <| .p (does_b true (h10)) <| .a 3 9 <|
                    .p (does_e false ((show (!((px == (Sp.rnd (Sp.cpx ax ay bx b_y cx cy dx dy))) && ((py == (Sp.rnd (Sp.cpy ax ay bx b_y cx cy dx dy))) && true))) = false from (by rw [(Sp.both_cp h6 h9 h10).1, (Sp.both_cp h6 h9 h10).2, Sp.rnd_int, Sp.rnd_int]; simp)))) <| .a 2 9 <| .nil _ _) ?_
                  refine aw_fl 33814446047 ?_
                  refine aw_sk ?_
                  refine block_normal ?_
                  refine block_normal ?_
                  refine then_normal ?_
                  refine aw_w [(4, .bool false), (5, .slice (some ⟨1, 0, none⟩) n 0), (6, .pointer (some ⟨2, 0, none⟩)), (8, .pointer (some ⟨3, 0, none⟩)), (25, .slice (some ⟨1, 0, none⟩) n 0), (26, .int .i64 ((n : Nat) : Int)), (27, .int .i64 ((u : Nat) : Int)), (34, .slice (some ⟨1, 0, none⟩) u 0), (35, .int .i64 ((u : Nat) : Int)), (36, .int .i64 ((j : Nat) : Int))] [(0, ⟨(xs.map i64v), 3, false, 1⟩), (1, ⟨((List.range n).flatMap (Sp.sgc xs)), 96, true, 4⟩), (2, ⟨[.int .i64 px, .int .i64 py], 24, true, 2⟩), (3, ⟨[.int .i64 (Sp.sgE1 xs u), .int .i64 (Sp.sgE2 xs u), .int .i64 (Sp.sgE3 xs u), .int .i64 (Sp.sgE4 xs u)], 96, true, 2⟩)] ?_ (by subst ex1 ex2 ex3 ex4; kernel_rfl) (by subst ex1 ex2 ex3 ex4; kernel_rfl) (hc := (by simp [closedB, valsB, valB, List.all_eq_true, List.mem_flatMap, List.mem_range, List.mem_map, i64v, Sp.sgc, flat1]; try (intros; simp [valsB, valB, flat1]); try decide))
                  refine aw_p1 (
                    .p (does_i (((j : Nat) : Int) + 1) (wrap_i64 (by omega) (by omega)) .i64) <| .a 1 9 <| .nil _ _) ?_
                  refine then_normal ?_
                  refine al_w [(4, .bool false), (5, .slice (some ⟨1, 0, none⟩) n 0), (6, .pointer (some ⟨2, 0, none⟩)), (8, .pointer (some ⟨3, 0, none⟩)), (25, .slice (some ⟨1, 0, none⟩) n 0), (26, .int .i64 ((n : Nat) : Int)), (27, .int .i64 ((u : Nat) : Int)), (34, .slice (some ⟨1, 0, none⟩) u 0), (35, .int .i64 ((u : Nat) : Int)), (36, .int .i64 (((j + 1) : Nat) : Int))] [(0, ⟨(xs.map i64v), 3, false, 1⟩), (1, ⟨((List.range n).flatMap (Sp.sgc xs)), 96, true, 4⟩), (2, ⟨[.int .i64 px, .int .i64 py], 24, true, 2⟩), (3, ⟨[.int .i64 (Sp.sgE1 xs u), .int .i64 (Sp.sgE2 xs u), .int .i64 (Sp.sgE3 xs u), .int .i64 (Sp.sgE4 xs u)], 96, true, 2⟩)] ?_ (hc := (by simp [closedB, valsB, valB, List.all_eq_true, List.mem_flatMap, List.mem_range, List.mem_map, i64v, Sp.sgc, flat1]; try (intros; simp [valsB, valB, flat1]); try decide))
                  exact ih2 (j + 1) (show ((j + 1) ≤ u) from by omega) (show u - (j + 1) < u - j from by omega)
                · refine aw_d 16907223023 (
                    .a 12 9 <|
                    .p (does_cb _ ((by have h := h6line_ok ax ay bx b_y (by omega) (by omega) (by omega) (by omega) (by omega) (by omega) (by omega) (by omega) (Sp.qn (Sp.cpx ax ay bx b_y cx cy dx dy)) (Sp.qd (Sp.cpx ax ay bx b_y cx cy dx dy)) (by have := Sp.qn_bd (Sp.cpx ax ay bx b_y cx cy dx dy); omega) (by have := Sp.qn_bd (Sp.cpx ax ay bx b_y cx cy dx dy); omega) (by have := Sp.qd_bd (Sp.cpx ax ay bx b_y cx cy dx dy); omega) (by have := Sp.qd_bd (Sp.cpx ax ay bx b_y cx cy dx dy); omega) (Sp.qn (Sp.cpy ax ay bx b_y cx cy dx dy)) (Sp.qd (Sp.cpy ax ay bx b_y cx cy dx dy)) (by have := Sp.qn_bd (Sp.cpy ax ay bx b_y cx cy dx dy); omega) (by have := Sp.qn_bd (Sp.cpy ax ay bx b_y cx cy dx dy); omega) (by have := Sp.qd_bd (Sp.cpy ax ay bx b_y cx cy dx dy); omega) (by have := Sp.qd_bd (Sp.cpy ax ay bx b_y cx cy dx dy); omega) (by rw [(Sp.rv_fit (q := (Sp.cpx ax ay bx b_y cx cy dx dy)) (Sp.bd_fit cb.1.1 (by decide) (by decide)))]; exact (Sp.Bd.mono (N' := 551368) (D' := 13448) cb.1.1 (by decide) (by decide))) (by rw [(Sp.rv_fit (q := (Sp.cpy ax ay bx b_y cx cy dx dy)) (Sp.bd_fit cb.1.2 (by decide) (by decide)))]; exact (Sp.Bd.mono (N' := 551368) (D' := 13448) cb.1.2 (by decide) (by decide))); rw [(Sp.rv_fit (q := (Sp.cpx ax ay bx b_y cx cy dx dy)) (Sp.bd_fit cb.1.1 (by decide) (by decide))), (Sp.rv_fit (q := (Sp.cpy ax ay bx b_y cx cy dx dy)) (Sp.bd_fit cb.1.2 (by decide) (by decide)))] at h; exact h)) true ((decide_eq_true (Sp.l6_ab h6)))) <|
                    .a 8 9 <|
                    .p (does_cb _ ((by have h := h6line_ok cx cy dx dy (by omega) (by omega) (by omega) (by omega) (by omega) (by omega) (by omega) (by omega) (Sp.qn (Sp.cpx ax ay bx b_y cx cy dx dy)) (Sp.qd (Sp.cpx ax ay bx b_y cx cy dx dy)) (by have := Sp.qn_bd (Sp.cpx ax ay bx b_y cx cy dx dy); omega) (by have := Sp.qn_bd (Sp.cpx ax ay bx b_y cx cy dx dy); omega) (by have := Sp.qd_bd (Sp.cpx ax ay bx b_y cx cy dx dy); omega) (by have := Sp.qd_bd (Sp.cpx ax ay bx b_y cx cy dx dy); omega) (Sp.qn (Sp.cpy ax ay bx b_y cx cy dx dy)) (Sp.qd (Sp.cpy ax ay bx b_y cx cy dx dy)) (by have := Sp.qn_bd (Sp.cpy ax ay bx b_y cx cy dx dy); omega) (by have := Sp.qn_bd (Sp.cpy ax ay bx b_y cx cy dx dy); omega) (by have := Sp.qd_bd (Sp.cpy ax ay bx b_y cx cy dx dy); omega) (by have := Sp.qd_bd (Sp.cpy ax ay bx b_y cx cy dx dy); omega) (by rw [(Sp.rv_fit (q := (Sp.cpx ax ay bx b_y cx cy dx dy)) (Sp.bd_fit cb.1.1 (by decide) (by decide)))]; exact (Sp.Bd.mono (N' := 551368) (D' := 13448) cb.1.1 (by decide) (by decide))) (by rw [(Sp.rv_fit (q := (Sp.cpy ax ay bx b_y cx cy dx dy)) (Sp.bd_fit cb.1.2 (by decide) (by decide)))]; exact (Sp.Bd.mono (N' := 551368) (D' := 13448) cb.1.2 (by decide) (by decide))); rw [(Sp.rv_fit (q := (Sp.cpx ax ay bx b_y cx cy dx dy)) (Sp.bd_fit cb.1.1 (by decide) (by decide))), (Sp.rv_fit (q := (Sp.cpy ax ay bx b_y cx cy dx dy)) (Sp.bd_fit cb.1.2 (by decide) (by decide)))] at h; exact h)) true ((decide_eq_true (Sp.l6_cd h6)))) <|
                    .a 4 9 <|
                    .p (does_c ((by have h := fabs_ok (Sp.qn ((Sp.cpx ax ay bx b_y cx cy dx dy) + (-((Sp.rnd (Sp.cpx ax ay bx b_y cx cy dx dy) : Int) : Rat)))) (Sp.qd ((Sp.cpx ax ay bx b_y cx cy dx dy) + (-((Sp.rnd (Sp.cpx ax ay bx b_y cx cy dx dy) : Int) : Rat)))) (by have := Sp.qn_bd ((Sp.cpx ax ay bx b_y cx cy dx dy) + (-((Sp.rnd (Sp.cpx ax ay bx b_y cx cy dx dy) : Int) : Rat))); omega) (by have := Sp.qn_bd ((Sp.cpx ax ay bx b_y cx cy dx dy) + (-((Sp.rnd (Sp.cpx ax ay bx b_y cx cy dx dy) : Int) : Rat))); omega) (by have := Sp.qd_bd ((Sp.cpx ax ay bx b_y cx cy dx dy) + (-((Sp.rnd (Sp.cpx ax ay bx b_y cx cy dx dy) : Int) : Rat))); omega) (by have := Sp.qd_bd ((Sp.cpx ax ay bx b_y cx cy dx dy) + (-((Sp.rnd (Sp.cpx ax ay bx b_y cx cy dx dy) : Int) : Rat))); omega); rw [(Sp.rv_fit (q := ((Sp.cpx ax ay bx b_y cx cy dx dy) + (-((Sp.rnd (Sp.cpx ax ay bx b_y cx cy dx dy) : Int) : Rat)))) (Sp.bd_fit (Sp.Bd.add cb.1.1 (Sp.Bd.neg (Sp.Bd.mono (N' := 41) (D' := 1) (Sp.Bd.int (Sp.rnd (Sp.cpx ax ay bx b_y cx cy dx dy))) (by omega) (by decide)))) (by decide) (by decide)))] at h; exact h))) <|
                    .a 1 9 <|
                    .p (does_c ((by have h := fcmp_ok (Sp.qn (Sp.rabs ((Sp.cpx ax ay bx b_y cx cy dx dy) + (-((Sp.rnd (Sp.cpx ax ay bx b_y cx cy dx dy) : Int) : Rat))))) (Sp.qd (Sp.rabs ((Sp.cpx ax ay bx b_y cx cy dx dy) + (-((Sp.rnd (Sp.cpx ax ay bx b_y cx cy dx dy) : Int) : Rat))))) (by have := Sp.qn_bd (Sp.rabs ((Sp.cpx ax ay bx b_y cx cy dx dy) + (-((Sp.rnd (Sp.cpx ax ay bx b_y cx cy dx dy) : Int) : Rat)))); omega) (by have := Sp.qn_bd (Sp.rabs ((Sp.cpx ax ay bx b_y cx cy dx dy) + (-((Sp.rnd (Sp.cpx ax ay bx b_y cx cy dx dy) : Int) : Rat)))); omega) (by have := Sp.qd_bd (Sp.rabs ((Sp.cpx ax ay bx b_y cx cy dx dy) + (-((Sp.rnd (Sp.cpx ax ay bx b_y cx cy dx dy) : Int) : Rat)))); omega) (by have := Sp.qd_bd (Sp.rabs ((Sp.cpx ax ay bx b_y cx cy dx dy) + (-((Sp.rnd (Sp.cpx ax ay bx b_y cx cy dx dy) : Int) : Rat)))); omega) 1 2 (by decide) (by decide) (by decide) (by decide); rw [(Sp.rv_fit (q := (Sp.rabs ((Sp.cpx ax ay bx b_y cx cy dx dy) + (-((Sp.rnd (Sp.cpx ax ay bx b_y cx cy dx dy) : Int) : Rat))))) (Sp.fitq_abs (Sp.bd_fit (Sp.Bd.add cb.1.1 (Sp.Bd.neg (Sp.Bd.mono (N' := 41) (D' := 1) (Sp.Bd.int (Sp.rnd (Sp.cpx ax ay bx b_y cx cy dx dy))) (by omega) (by decide)))) (by decide) (by decide))))] at h; exact h))) <|
                    .p (does_b false (((Sp.rcmp_pos (Sp.rabs ((Sp.cpx ax ay bx b_y cx cy dx dy) + (-((Sp.rnd (Sp.cpx ax ay bx b_y cx cy dx dy) : Int) : Rat)))) (Sp.rv 1 2))).trans ((decide_eq_false (Rat.not_lt.2 (Sp.rnd_half _)))))) <| .a 2 9 <| .p (does_b false (h10)) <| .a 6 9 <| .nil _ _) ?_
                  refine aw_fl 33814446047 ?_
                  refine aw_sk ?_
                  refine block_normal ?_
                  refine block_normal ?_
                  refine then_normal ?_
                  refine aw_w [(4, .bool false), (5, .slice (some ⟨1, 0, none⟩) n 0), (6, .pointer (some ⟨2, 0, none⟩)), (8, .pointer (some ⟨3, 0, none⟩)), (25, .slice (some ⟨1, 0, none⟩) n 0), (26, .int .i64 ((n : Nat) : Int)), (27, .int .i64 ((u : Nat) : Int)), (34, .slice (some ⟨1, 0, none⟩) u 0), (35, .int .i64 ((u : Nat) : Int)), (36, .int .i64 ((j : Nat) : Int))] [(0, ⟨(xs.map i64v), 3, false, 1⟩), (1, ⟨((List.range n).flatMap (Sp.sgc xs)), 96, true, 4⟩), (2, ⟨[.int .i64 px, .int .i64 py], 24, true, 2⟩), (3, ⟨[.int .i64 (Sp.sgE1 xs u), .int .i64 (Sp.sgE2 xs u), .int .i64 (Sp.sgE3 xs u), .int .i64 (Sp.sgE4 xs u)], 96, true, 2⟩)] ?_ (by subst ex1 ex2 ex3 ex4; kernel_rfl) (by subst ex1 ex2 ex3 ex4; kernel_rfl) (hc := (by simp [closedB, valsB, valB, List.all_eq_true, List.mem_flatMap, List.mem_range, List.mem_map, i64v, Sp.sgc, flat1]; try (intros; simp [valsB, valB, flat1]); try decide))
                  refine aw_p1 (
                    .p (does_i (((j : Nat) : Int) + 1) (wrap_i64 (by omega) (by omega)) .i64) <| .a 1 9 <| .nil _ _) ?_
                  refine then_normal ?_
                  refine al_w [(4, .bool false), (5, .slice (some ⟨1, 0, none⟩) n 0), (6, .pointer (some ⟨2, 0, none⟩)), (8, .pointer (some ⟨3, 0, none⟩)), (25, .slice (some ⟨1, 0, none⟩) n 0), (26, .int .i64 ((n : Nat) : Int)), (27, .int .i64 ((u : Nat) : Int)), (34, .slice (some ⟨1, 0, none⟩) u 0), (35, .int .i64 ((u : Nat) : Int)), (36, .int .i64 (((j + 1) : Nat) : Int))] [(0, ⟨(xs.map i64v), 3, false, 1⟩), (1, ⟨((List.range n).flatMap (Sp.sgc xs)), 96, true, 4⟩), (2, ⟨[.int .i64 px, .int .i64 py], 24, true, 2⟩), (3, ⟨[.int .i64 (Sp.sgE1 xs u), .int .i64 (Sp.sgE2 xs u), .int .i64 (Sp.sgE3 xs u), .int .i64 (Sp.sgE4 xs u)], 96, true, 2⟩)] ?_ (hc := (by simp [closedB, valsB, valB, List.all_eq_true, List.mem_flatMap, List.mem_range, List.mem_map, i64v, Sp.sgc, flat1]; try (intros; simp [valsB, valB, flat1]); try decide))
                  exact ih2 (j + 1) (show ((j + 1) ≤ u) from by omega) (show u - (j + 1) < u - j from by omega)
              · refine aw_p 16510959 (
                  .a 5 6 <| .p (does_cb _ (on_in ax ay bx b_y px py (by omega) (by omega) (by omega) (by omega) (by omega) (by omega) (by omega) (by omega) (by omega) (by omega) (by omega) (by omega)) false (h9)) <| .a 9 6 <| .nil _ _) ?_
                refine aw_p 33021919 (
                  .a 8 6 <| .p (does_c (segmeet_in ax ay bx b_y cx cy dx dy (by omega) (by omega) (by omega) (by omega) (by omega) (by omega) (by omega) (by omega) (by omega) (by omega) (by omega) (by omega) (by omega) (by omega) (by omega) (by omega))) <| .nil _ _) ?_
                refine aw_bl 4 66043839 ?_
                refine aw_p 132087679 (
                  .p (does_b false ((beq_eq_false_iff_ne.2 (of_decide_eq_false h4)))) <| .a 1 6 <| .nil _ _) ?_
                refine aw_fl 264175359 ?_
                refine aw_p 528350719 (
                  .p (does_b true ((show ((Sp.meetN ax ay bx b_y cx cy dx dy) == 1) = true from (by rw [Sp.meetN_prp h6]; rfl)))) <| .a 1 6 <| .nil _ _) ?_
                refine aw_tr 1056701438 ?_
                refine aw_p 2113402877 (
                  .a 1 6 <|
                  .p (does_c ((by have h := segsnap_ok (Sp.qn (Sp.cpx ax ay bx b_y cx cy dx dy)) (Sp.qd (Sp.cpx ax ay bx b_y cx cy dx dy)) (by have := Sp.qn_bd (Sp.cpx ax ay bx b_y cx cy dx dy); omega) (by have := Sp.qn_bd (Sp.cpx ax ay bx b_y cx cy dx dy); omega) (by have := Sp.qd_bd (Sp.cpx ax ay bx b_y cx cy dx dy); omega) (by have := Sp.qd_bd (Sp.cpx ax ay bx b_y cx cy dx dy); omega) (Sp.qn (Sp.cpy ax ay bx b_y cx cy dx dy)) (Sp.qd (Sp.cpy ax ay bx b_y cx cy dx dy)) (by have := Sp.qn_bd (Sp.cpy ax ay bx b_y cx cy dx dy); omega) (by have := Sp.qn_bd (Sp.cpy ax ay bx b_y cx cy dx dy); omega) (by have := Sp.qd_bd (Sp.cpy ax ay bx b_y cx cy dx dy); omega) (by have := Sp.qd_bd (Sp.cpy ax ay bx b_y cx cy dx dy); omega); rw [(Sp.rv_fit (q := (Sp.cpx ax ay bx b_y cx cy dx dy)) (Sp.bd_fit cb.1.1 (by decide) (by decide))), (Sp.rv_fit (q := (Sp.cpy ax ay bx b_y cx cy dx dy)) (Sp.bd_fit cb.1.2 (by decide) (by decide))), Sp.lim_id (m := 1048576) (n := Sp.rnd (Sp.cpx ax ay bx b_y cx cy dx dy)) (by omega) (by omega), Sp.lim_id (m := 1048576) (n := Sp.rnd (Sp.cpy ax ay bx b_y cx cy dx dy)) (by omega) (by omega)] at h; exact h))) <|
                  .a 2 6 <| .nil _ _) ?_
                refine aw_d 4226805755 (
                  .a 4 7 <| .p (does_c ((by have h := fof_ok (Sp.rnd (Sp.cpx ax ay bx b_y cx cy dx dy)); rw [Sp.mx_id (by omega)] at h; exact h))) <|
                  .p (does_c ((by have h := fsub_ok (Sp.qn (Sp.cpx ax ay bx b_y cx cy dx dy)) (Sp.qd (Sp.cpx ax ay bx b_y cx cy dx dy)) (by have := Sp.qn_bd (Sp.cpx ax ay bx b_y cx cy dx dy); omega) (by have := Sp.qn_bd (Sp.cpx ax ay bx b_y cx cy dx dy); omega) (by have := Sp.qd_bd (Sp.cpx ax ay bx b_y cx cy dx dy); omega) (by have := Sp.qd_bd (Sp.cpx ax ay bx b_y cx cy dx dy); omega) (Sp.rnd (Sp.cpx ax ay bx b_y cx cy dx dy)) 1 (by omega) (by omega) (by decide) (by decide); rw [(Sp.rv_fit (q := (Sp.cpx ax ay bx b_y cx cy dx dy)) (Sp.bd_fit cb.1.1 (by decide) (by decide))), (Sp.rv_int (Sp.rnd (Sp.cpx ax ay bx b_y cx cy dx dy)) (by omega)), (Sp.qe_fit (q := ((Sp.cpx ax ay bx b_y cx cy dx dy) + (-((Sp.rnd (Sp.cpx ax ay bx b_y cx cy dx dy) : Int) : Rat)))) (Sp.bd_fit (Sp.Bd.add cb.1.1 (Sp.Bd.neg (Sp.Bd.mono (N' := 41) (D' := 1) (Sp.Bd.int (Sp.rnd (Sp.cpx ax ay bx b_y cx cy dx dy))) (by omega) (by decide)))) (by decide) (by decide)))] at h; exact h))) <|
                  .a 6 7 <| .nil _ _) ?_
                refine aw_p 8453611511 (
                  .p (does_c ((by have h := fmake_ok 1 2 (by decide) (by decide) (by decide) (by decide); rw [show Sp.dvn ((1 : Int) : Rat) ((2 : Int) : Rat) = 1 from by decide +kernel, show Sp.dvd ((1 : Int) : Rat) ((2 : Int) : Rat) = 2 from by decide +kernel, show Sp.dve ((1 : Int) : Rat) ((2 : Int) : Rat) = 0 from by decide +kernel] at h; exact h))) <|
                  .a 6 8 <| .nil _ _) ?_
                refine aw_d 16907223023 (
                  .a 12 9 <|
                  .p (does_cb _ ((by have h := h6line_ok ax ay bx b_y (by omega) (by omega) (by omega) (by omega) (by omega) (by omega) (by omega) (by omega) (Sp.qn (Sp.cpx ax ay bx b_y cx cy dx dy)) (Sp.qd (Sp.cpx ax ay bx b_y cx cy dx dy)) (by have := Sp.qn_bd (Sp.cpx ax ay bx b_y cx cy dx dy); omega) (by have := Sp.qn_bd (Sp.cpx ax ay bx b_y cx cy dx dy); omega) (by have := Sp.qd_bd (Sp.cpx ax ay bx b_y cx cy dx dy); omega) (by have := Sp.qd_bd (Sp.cpx ax ay bx b_y cx cy dx dy); omega) (Sp.qn (Sp.cpy ax ay bx b_y cx cy dx dy)) (Sp.qd (Sp.cpy ax ay bx b_y cx cy dx dy)) (by have := Sp.qn_bd (Sp.cpy ax ay bx b_y cx cy dx dy); omega) (by have := Sp.qn_bd (Sp.cpy ax ay bx b_y cx cy dx dy); omega) (by have := Sp.qd_bd (Sp.cpy ax ay bx b_y cx cy dx dy); omega) (by have := Sp.qd_bd (Sp.cpy ax ay bx b_y cx cy dx dy); omega) (by rw [(Sp.rv_fit (q := (Sp.cpx ax ay bx b_y cx cy dx dy)) (Sp.bd_fit cb.1.1 (by decide) (by decide)))]; exact (Sp.Bd.mono (N' := 551368) (D' := 13448) cb.1.1 (by decide) (by decide))) (by rw [(Sp.rv_fit (q := (Sp.cpy ax ay bx b_y cx cy dx dy)) (Sp.bd_fit cb.1.2 (by decide) (by decide)))]; exact (Sp.Bd.mono (N' := 551368) (D' := 13448) cb.1.2 (by decide) (by decide))); rw [(Sp.rv_fit (q := (Sp.cpx ax ay bx b_y cx cy dx dy)) (Sp.bd_fit cb.1.1 (by decide) (by decide))), (Sp.rv_fit (q := (Sp.cpy ax ay bx b_y cx cy dx dy)) (Sp.bd_fit cb.1.2 (by decide) (by decide)))] at h; exact h)) true ((decide_eq_true (Sp.l6_ab h6)))) <|
                  .a 8 9 <|
                  .p (does_cb _ ((by have h := h6line_ok cx cy dx dy (by omega) (by omega) (by omega) (by omega) (by omega) (by omega) (by omega) (by omega) (Sp.qn (Sp.cpx ax ay bx b_y cx cy dx dy)) (Sp.qd (Sp.cpx ax ay bx b_y cx cy dx dy)) (by have := Sp.qn_bd (Sp.cpx ax ay bx b_y cx cy dx dy); omega) (by have := Sp.qn_bd (Sp.cpx ax ay bx b_y cx cy dx dy); omega) (by have := Sp.qd_bd (Sp.cpx ax ay bx b_y cx cy dx dy); omega) (by have := Sp.qd_bd (Sp.cpx ax ay bx b_y cx cy dx dy); omega) (Sp.qn (Sp.cpy ax ay bx b_y cx cy dx dy)) (Sp.qd (Sp.cpy ax ay bx b_y cx cy dx dy)) (by have := Sp.qn_bd (Sp.cpy ax ay bx b_y cx cy dx dy); omega) (by have := Sp.qn_bd (Sp.cpy ax ay bx b_y cx cy dx dy); omega) (by have := Sp.qd_bd (Sp.cpy ax ay bx b_y cx cy dx dy); omega) (by have := Sp.qd_bd (Sp.cpy ax ay bx b_y cx cy dx dy); omega) (by rw [(Sp.rv_fit (q := (Sp.cpx ax ay bx b_y cx cy dx dy)) (Sp.bd_fit cb.1.1 (by decide) (by decide)))]; exact (Sp.Bd.mono (N' := 551368) (D' := 13448) cb.1.1 (by decide) (by decide))) (by rw [(Sp.rv_fit (q := (Sp.cpy ax ay bx b_y cx cy dx dy)) (Sp.bd_fit cb.1.2 (by decide) (by decide)))]; exact (Sp.Bd.mono (N' := 551368) (D' := 13448) cb.1.2 (by decide) (by decide))); rw [(Sp.rv_fit (q := (Sp.cpx ax ay bx b_y cx cy dx dy)) (Sp.bd_fit cb.1.1 (by decide) (by decide))), (Sp.rv_fit (q := (Sp.cpy ax ay bx b_y cx cy dx dy)) (Sp.bd_fit cb.1.2 (by decide) (by decide)))] at h; exact h)) true ((decide_eq_true (Sp.l6_cd h6)))) <|
                  .a 4 9 <|
                  .p (does_c ((by have h := fabs_ok (Sp.qn ((Sp.cpx ax ay bx b_y cx cy dx dy) + (-((Sp.rnd (Sp.cpx ax ay bx b_y cx cy dx dy) : Int) : Rat)))) (Sp.qd ((Sp.cpx ax ay bx b_y cx cy dx dy) + (-((Sp.rnd (Sp.cpx ax ay bx b_y cx cy dx dy) : Int) : Rat)))) (by have := Sp.qn_bd ((Sp.cpx ax ay bx b_y cx cy dx dy) + (-((Sp.rnd (Sp.cpx ax ay bx b_y cx cy dx dy) : Int) : Rat))); omega) (by have := Sp.qn_bd ((Sp.cpx ax ay bx b_y cx cy dx dy) + (-((Sp.rnd (Sp.cpx ax ay bx b_y cx cy dx dy) : Int) : Rat))); omega) (by have := Sp.qd_bd ((Sp.cpx ax ay bx b_y cx cy dx dy) + (-((Sp.rnd (Sp.cpx ax ay bx b_y cx cy dx dy) : Int) : Rat))); omega) (by have := Sp.qd_bd ((Sp.cpx ax ay bx b_y cx cy dx dy) + (-((Sp.rnd (Sp.cpx ax ay bx b_y cx cy dx dy) : Int) : Rat))); omega); rw [(Sp.rv_fit (q := ((Sp.cpx ax ay bx b_y cx cy dx dy) + (-((Sp.rnd (Sp.cpx ax ay bx b_y cx cy dx dy) : Int) : Rat)))) (Sp.bd_fit (Sp.Bd.add cb.1.1 (Sp.Bd.neg (Sp.Bd.mono (N' := 41) (D' := 1) (Sp.Bd.int (Sp.rnd (Sp.cpx ax ay bx b_y cx cy dx dy))) (by omega) (by decide)))) (by decide) (by decide)))] at h; exact h))) <|
                  .a 1 9 <|
                  .p (does_c ((by have h := fcmp_ok (Sp.qn (Sp.rabs ((Sp.cpx ax ay bx b_y cx cy dx dy) + (-((Sp.rnd (Sp.cpx ax ay bx b_y cx cy dx dy) : Int) : Rat))))) (Sp.qd (Sp.rabs ((Sp.cpx ax ay bx b_y cx cy dx dy) + (-((Sp.rnd (Sp.cpx ax ay bx b_y cx cy dx dy) : Int) : Rat))))) (by have := Sp.qn_bd (Sp.rabs ((Sp.cpx ax ay bx b_y cx cy dx dy) + (-((Sp.rnd (Sp.cpx ax ay bx b_y cx cy dx dy) : Int) : Rat)))); omega) (by have := Sp.qn_bd (Sp.rabs ((Sp.cpx ax ay bx b_y cx cy dx dy) + (-((Sp.rnd (Sp.cpx ax ay bx b_y cx cy dx dy) : Int) : Rat)))); omega) (by have := Sp.qd_bd (Sp.rabs ((Sp.cpx ax ay bx b_y cx cy dx dy) + (-((Sp.rnd (Sp.cpx ax ay bx b_y cx cy dx dy) : Int) : Rat)))); omega) (by have := Sp.qd_bd (Sp.rabs ((Sp.cpx ax ay bx b_y cx cy dx dy) + (-((Sp.rnd (Sp.cpx ax ay bx b_y cx cy dx dy) : Int) : Rat)))); omega) 1 2 (by decide) (by decide) (by decide) (by decide); rw [(Sp.rv_fit (q := (Sp.rabs ((Sp.cpx ax ay bx b_y cx cy dx dy) + (-((Sp.rnd (Sp.cpx ax ay bx b_y cx cy dx dy) : Int) : Rat))))) (Sp.fitq_abs (Sp.bd_fit (Sp.Bd.add cb.1.1 (Sp.Bd.neg (Sp.Bd.mono (N' := 41) (D' := 1) (Sp.Bd.int (Sp.rnd (Sp.cpx ax ay bx b_y cx cy dx dy))) (by omega) (by decide)))) (by decide) (by decide))))] at h; exact h))) <|
                  .p (does_b false (((Sp.rcmp_pos (Sp.rabs ((Sp.cpx ax ay bx b_y cx cy dx dy) + (-((Sp.rnd (Sp.cpx ax ay bx b_y cx cy dx dy) : Int) : Rat)))) (Sp.rv 1 2))).trans ((decide_eq_false (Rat.not_lt.2 (Sp.rnd_half _)))))) <| .a 9 9 <| .nil _ _) ?_
                refine aw_fl 33814446047 ?_
                refine aw_sk ?_
                refine block_normal ?_
                refine block_normal ?_
                refine then_normal ?_
                refine aw_w [(4, .bool false), (5, .slice (some ⟨1, 0, none⟩) n 0), (6, .pointer (some ⟨2, 0, none⟩)), (8, .pointer (some ⟨3, 0, none⟩)), (25, .slice (some ⟨1, 0, none⟩) n 0), (26, .int .i64 ((n : Nat) : Int)), (27, .int .i64 ((u : Nat) : Int)), (34, .slice (some ⟨1, 0, none⟩) u 0), (35, .int .i64 ((u : Nat) : Int)), (36, .int .i64 ((j : Nat) : Int))] [(0, ⟨(xs.map i64v), 3, false, 1⟩), (1, ⟨((List.range n).flatMap (Sp.sgc xs)), 96, true, 4⟩), (2, ⟨[.int .i64 px, .int .i64 py], 24, true, 2⟩), (3, ⟨[.int .i64 (Sp.sgE1 xs u), .int .i64 (Sp.sgE2 xs u), .int .i64 (Sp.sgE3 xs u), .int .i64 (Sp.sgE4 xs u)], 96, true, 2⟩)] ?_ (by subst ex1 ex2 ex3 ex4; kernel_rfl) (by subst ex1 ex2 ex3 ex4; kernel_rfl) (hc := (by simp [closedB, valsB, valB, List.all_eq_true, List.mem_flatMap, List.mem_range, List.mem_map, i64v, Sp.sgc, flat1]; try (intros; simp [valsB, valB, flat1]); try decide))
                refine aw_p1 (
                  .p (does_i (((j : Nat) : Int) + 1) (wrap_i64 (by omega) (by omega)) .i64) <| .a 1 9 <| .nil _ _) ?_
                refine then_normal ?_
                refine al_w [(4, .bool false), (5, .slice (some ⟨1, 0, none⟩) n 0), (6, .pointer (some ⟨2, 0, none⟩)), (8, .pointer (some ⟨3, 0, none⟩)), (25, .slice (some ⟨1, 0, none⟩) n 0), (26, .int .i64 ((n : Nat) : Int)), (27, .int .i64 ((u : Nat) : Int)), (34, .slice (some ⟨1, 0, none⟩) u 0), (35, .int .i64 ((u : Nat) : Int)), (36, .int .i64 (((j + 1) : Nat) : Int))] [(0, ⟨(xs.map i64v), 3, false, 1⟩), (1, ⟨((List.range n).flatMap (Sp.sgc xs)), 96, true, 4⟩), (2, ⟨[.int .i64 px, .int .i64 py], 24, true, 2⟩), (3, ⟨[.int .i64 (Sp.sgE1 xs u), .int .i64 (Sp.sgE2 xs u), .int .i64 (Sp.sgE3 xs u), .int .i64 (Sp.sgE4 xs u)], 96, true, 2⟩)] ?_ (hc := (by simp [closedB, valsB, valB, List.all_eq_true, List.mem_flatMap, List.mem_range, List.mem_map, i64v, Sp.sgc, flat1]; try (intros; simp [valsB, valB, flat1]); try decide))
                exact ih2 (j + 1) (show ((j + 1) ≤ u) from by omega) (show u - (j + 1) < u - j from by omega)
            · have hone := Sp.one_sp (of_decide_eq_false h4) (of_decide_eq_false h5) h6
              have zb := Sp.one41 hone (by omega) (by omega) (by omega) (by omega) (by omega) (by omega) (by omega) (by omega) (by omega) (by omega) (by omega) (by omega) (by omega) (by omega) (by omega) (by omega)
              refine aw_p 8255479 (
                .a 8 5 <|
                .p (does_c (segat1_in ax ay bx b_y cx cy dx dy (by omega) (by omega) (by omega) (by omega) (by omega) (by omega) (by omega) (by omega) (by omega) (by omega) (by omega) (by omega) (by omega) (by omega) (by omega) (by omega) (Sp.spx ax ay bx b_y cx cy dx dy) (Sp.spy ax ay bx b_y cx cy dx dy) (Sp.one_sp (of_decide_eq_false h4) (of_decide_eq_false h5) h6))) <|
                .a 6 5 <| .nil _ _) ?_
              rcases Bool.eq_false_or_eq_true (Sp.onb ax ay bx b_y px py) with h11 | h11
              · refine aw_p 16510959 (
                  .a 5 6 <| .p (does_cb _ (on_in ax ay bx b_y px py (by omega) (by omega) (by omega) (by omega) (by omega) (by omega) (by omega) (by omega) (by omega) (by omega) (by omega) (by omega)) true (h11)) <| .a 6 6 <|
                  .p (does_c (on_in cx cy dx dy px py (by omega) (by omega) (by omega) (by omega) (by omega) (by omega) (by omega) (by omega) (by omega) (by omega) (by omega) (by omega))) <| .a 2 6 <| .nil _ _) ?_
                refine aw_p 33021919 (
                  .a 8 6 <| .p (does_c (segmeet_in ax ay bx b_y cx cy dx dy (by omega) (by omega) (by omega) (by omega) (by omega) (by omega) (by omega) (by omega) (by omega) (by omega) (by omega) (by omega) (by omega) (by omega) (by omega) (by omega))) <| .nil _ _) ?_
                refine aw_bl 4 66043839 ?_
                refine aw_p 132087679 (
                  .p (does_b false ((beq_eq_false_iff_ne.2 (of_decide_eq_false h4)))) <| .a 1 6 <| .nil _ _) ?_
                refine aw_fl 264175359 ?_
                refine aw_p 528350719 (
                  .p (does_b true ((show ((Sp.meetN ax ay bx b_y cx cy dx dy) == 1) = true from (by rw [Sp.meetN_one hone]; rfl)))) <| .a 1 6 <| .nil _ _) ?_
                refine aw_tr 1056701438 ?_
                refine aw_p 2113402877 (
                  .a 1 6 <|
                  .p (does_c ((by have h := segsnap_ok (Sp.spx ax ay bx b_y cx cy dx dy) 1 (by omega) (by omega) (by decide) (by decide) (Sp.spy ax ay bx b_y cx cy dx dy) 1 (by omega) (by omega) (by decide) (by decide); rw [(Sp.rv_int (Sp.spx ax ay bx b_y cx cy dx dy) (by omega)), (Sp.rv_int (Sp.spy ax ay bx b_y cx cy dx dy) (by omega)), Sp.rnd_int (Sp.spx ax ay bx b_y cx cy dx dy), Sp.rnd_int (Sp.spy ax ay bx b_y cx cy dx dy), Sp.lim_id (m := 1048576) (n := Sp.spx ax ay bx b_y cx cy dx dy) (by omega) (by omega), Sp.lim_id (m := 1048576) (n := Sp.spy ax ay bx b_y cx cy dx dy) (by omega) (by omega)] at h; exact h))) <|
                  .a 2 6 <| .nil _ _) ?_
                refine aw_d 4226805755 (
                  .a 4 7 <| .p (does_c ((by have h := fof_ok (Sp.spx ax ay bx b_y cx cy dx dy); rw [Sp.mx_id (by omega)] at h; exact h))) <|
                  .p (does_c ((by have h := fsub_ok (Sp.spx ax ay bx b_y cx cy dx dy) 1 (by omega) (by omega) (by decide) (by decide) (Sp.spx ax ay bx b_y cx cy dx dy) 1 (by omega) (by omega) (by decide) (by decide); rw [(Sp.rv_int (Sp.spx ax ay bx b_y cx cy dx dy) (by omega)), (Sp.qe_fit (q := (((Sp.spx ax ay bx b_y cx cy dx dy : Int) : Rat) + (-((Sp.spx ax ay bx b_y cx cy dx dy : Int) : Rat)))) (Sp.bd_fit (Sp.Bd.add (Sp.Bd.mono (N' := 41) (D' := 1) (Sp.Bd.int (Sp.spx ax ay bx b_y cx cy dx dy)) (by omega) (by decide)) (Sp.Bd.neg (Sp.Bd.mono (N' := 41) (D' := 1) (Sp.Bd.int (Sp.spx ax ay bx b_y cx cy dx dy)) (by omega) (by decide)))) (by decide) (by decide)))] at h; exact h))) <|
                  .a 6 7 <| .nil _ _) ?_
                refine aw_p 8453611511 (
                  .p (does_c ((by have h := fmake_ok 1 2 (by decide) (by decide) (by decide) (by decide); rw [show Sp.dvn ((1 : Int) : Rat) ((2 : Int) : Rat) = 1 from by decide +kernel, show Sp.dvd ((1 : Int) : Rat) ((2 : Int) : Rat) = 2 from by decide +kernel, show Sp.dve ((1 : Int) : Rat) ((2 : Int) : Rat) = 0 from by decide +kernel] at h; exact h))) <|
                  .a 6 8 <| .nil _ _) ?_
                rcases Bool.eq_false_or_eq_true (Sp.onb cx cy dx dy px py) with h12 | h12
                · refine aw_d 16907223023 (
                    .a 12 9 <|
                    .p (does_cb _ ((by have h := h6line_ok ax ay bx b_y (by omega) (by omega) (by omega) (by omega) (by omega) (by omega) (by omega) (by omega) (Sp.spx ax ay bx b_y cx cy dx dy) 1 (by omega) (by omega) (by decide) (by decide) (Sp.spy ax ay bx b_y cx cy dx dy) 1 (by omega) (by omega) (by decide) (by decide) (by rw [(Sp.rv_int (Sp.spx ax ay bx b_y cx cy dx dy) (by omega))]; exact (Sp.Bd.mono (N' := 551368) (D' := 13448) (Sp.Bd.mono (N' := 41) (D' := 1) (Sp.Bd.int (Sp.spx ax ay bx b_y cx cy dx dy)) (by omega) (by decide)) (by decide) (by decide))) (by rw [(Sp.rv_int (Sp.spy ax ay bx b_y cx cy dx dy) (by omega))]; exact (Sp.Bd.mono (N' := 551368) (D' := 13448) (Sp.Bd.mono (N' := 41) (D' := 1) (Sp.Bd.int (Sp.spy ax ay bx b_y cx cy dx dy)) (by omega) (by decide)) (by decide) (by decide))); rw [(Sp.rv_int (Sp.spx ax ay bx b_y cx cy dx dy) (by omega)), (Sp.rv_int (Sp.spy ax ay bx b_y cx cy dx dy) (by omega))] at h; exact h)) true ((decide_eq_true (Sp.l6_on (Sp.shr_on (Sp.one_mem hone)).1)))) <|
                    .a 8 9 <|
                    .p (does_cb _ ((by have h := h6line_ok cx cy dx dy (by omega) (by omega) (by omega) (by omega) (by omega) (by omega) (by omega) (by omega) (Sp.spx ax ay bx b_y cx cy dx dy) 1 (by omega) (by omega) (by decide) (by decide) (Sp.spy ax ay bx b_y cx cy dx dy) 1 (by omega) (by omega) (by decide) (by decide) (by rw [(Sp.rv_int (Sp.spx ax ay bx b_y cx cy dx dy) (by omega))]; exact (Sp.Bd.mono (N' := 551368) (D' := 13448) (Sp.Bd.mono (N' := 41) (D' := 1) (Sp.Bd.int (Sp.spx ax ay bx b_y cx cy dx dy)) (by omega) (by decide)) (by decide) (by decide))) (by rw [(Sp.rv_int (Sp.spy ax ay bx b_y cx cy dx dy) (by omega))]; exact (Sp.Bd.mono (N' := 551368) (D' := 13448) (Sp.Bd.mono (N' := 41) (D' := 1) (Sp.Bd.int (Sp.spy ax ay bx b_y cx cy dx dy)) (by omega) (by decide)) (by decide) (by decide))); rw [(Sp.rv_int (Sp.spx ax ay bx b_y cx cy dx dy) (by omega)), (Sp.rv_int (Sp.spy ax ay bx b_y cx cy dx dy) (by omega))] at h; exact h)) true ((decide_eq_true (Sp.l6_on (Sp.shr_on (Sp.one_mem hone)).2)))) <|
                    .a 4 9 <|
                    .p (does_c ((by have h := fabs_ok (Sp.qn (((Sp.spx ax ay bx b_y cx cy dx dy : Int) : Rat) + (-((Sp.spx ax ay bx b_y cx cy dx dy : Int) : Rat)))) (Sp.qd (((Sp.spx ax ay bx b_y cx cy dx dy : Int) : Rat) + (-((Sp.spx ax ay bx b_y cx cy dx dy : Int) : Rat)))) (by have := Sp.qn_bd (((Sp.spx ax ay bx b_y cx cy dx dy : Int) : Rat) + (-((Sp.spx ax ay bx b_y cx cy dx dy : Int) : Rat))); omega) (by have := Sp.qn_bd (((Sp.spx ax ay bx b_y cx cy dx dy : Int) : Rat) + (-((Sp.spx ax ay bx b_y cx cy dx dy : Int) : Rat))); omega) (by have := Sp.qd_bd (((Sp.spx ax ay bx b_y cx cy dx dy : Int) : Rat) + (-((Sp.spx ax ay bx b_y cx cy dx dy : Int) : Rat))); omega) (by have := Sp.qd_bd (((Sp.spx ax ay bx b_y cx cy dx dy : Int) : Rat) + (-((Sp.spx ax ay bx b_y cx cy dx dy : Int) : Rat))); omega); rw [(Sp.rv_fit (q := (((Sp.spx ax ay bx b_y cx cy dx dy : Int) : Rat) + (-((Sp.spx ax ay bx b_y cx cy dx dy : Int) : Rat)))) (Sp.bd_fit (Sp.Bd.add (Sp.Bd.mono (N' := 41) (D' := 1) (Sp.Bd.int (Sp.spx ax ay bx b_y cx cy dx dy)) (by omega) (by decide)) (Sp.Bd.neg (Sp.Bd.mono (N' := 41) (D' := 1) (Sp.Bd.int (Sp.spx ax ay bx b_y cx cy dx dy)) (by omega) (by decide)))) (by decide) (by decide)))] at h; exact h))) <|
                    .a 1 9 <|
                    .p (does_c ((by have h := fcmp_ok (Sp.qn (Sp.rabs (((Sp.spx ax ay bx b_y cx cy dx dy : Int) : Rat) + (-((Sp.spx ax ay bx b_y cx cy dx dy : Int) : Rat))))) (Sp.qd (Sp.rabs (((Sp.spx ax ay bx b_y cx cy dx dy : Int) : Rat) + (-((Sp.spx ax ay bx b_y cx cy dx dy : Int) : Rat))))) (by have := Sp.qn_bd (Sp.rabs (((Sp.spx ax ay bx b_y cx cy dx dy : Int) : Rat) + (-((Sp.spx ax ay bx b_y cx cy dx dy : Int) : Rat)))); omega) (by have := Sp.qn_bd (Sp.rabs (((Sp.spx ax ay bx b_y cx cy dx dy : Int) : Rat) + (-((Sp.spx ax ay bx b_y cx cy dx dy : Int) : Rat)))); omega) (by have := Sp.qd_bd (Sp.rabs (((Sp.spx ax ay bx b_y cx cy dx dy : Int) : Rat) + (-((Sp.spx ax ay bx b_y cx cy dx dy : Int) : Rat)))); omega) (by have := Sp.qd_bd (Sp.rabs (((Sp.spx ax ay bx b_y cx cy dx dy : Int) : Rat) + (-((Sp.spx ax ay bx b_y cx cy dx dy : Int) : Rat)))); omega) 1 2 (by decide) (by decide) (by decide) (by decide); rw [(Sp.rv_fit (q := (Sp.rabs (((Sp.spx ax ay bx b_y cx cy dx dy : Int) : Rat) + (-((Sp.spx ax ay bx b_y cx cy dx dy : Int) : Rat))))) (Sp.fitq_abs (Sp.bd_fit (Sp.Bd.add (Sp.Bd.mono (N' := 41) (D' := 1) (Sp.Bd.int (Sp.spx ax ay bx b_y cx cy dx dy)) (by omega) (by decide)) (Sp.Bd.neg (Sp.Bd.mono (N' := 41) (D' := 1) (Sp.Bd.int (Sp.spx ax ay bx b_y cx cy dx dy)) (by omega) (by decide)))) (by decide) (by decide))))] at h; exact h))) <|
                    .p (does_b false (((Sp.rcmp_pos (Sp.rabs (((Sp.spx ax ay bx b_y cx cy dx dy : Int) : Rat) + (-((Sp.spx ax ay bx b_y cx cy dx dy : Int) : Rat)))) (Sp.rv 1 2))).trans ((decide_eq_false (Rat.not_lt.2 (Sp.rnd_half' _)))))) <| .a 2 9 <| .p (does_b true (h12)) <| .a 3 9 <|
                    .p (does_e false ((show (!((px == (Sp.spx ax ay bx b_y cx cy dx dy)) && ((py == (Sp.spy ax ay bx b_y cx cy dx dy)) && true))) = false from (by have q := Sp.both_one hone h11 h12; rw [q.1, q.2]; simp)))) <| .a 2 9 <| .nil _ _) ?_
                  refine aw_fl 33814446047 ?_
                  refine aw_sk ?_
                  refine block_normal ?_
                  refine block_normal ?_
                  refine then_normal ?_
                  refine aw_w [(4, .bool false), (5, .slice (some ⟨1, 0, none⟩) n 0), (6, .pointer (some ⟨2, 0, none⟩)), (8, .pointer (some ⟨3, 0, none⟩)), (25, .slice (some ⟨1, 0, none⟩) n 0), (26, .int .i64 ((n : Nat) : Int)), (27, .int .i64 ((u : Nat) : Int)), (34, .slice (some ⟨1, 0, none⟩) u 0), (35, .int .i64 ((u : Nat) : Int)), (36, .int .i64 ((j : Nat) : Int))] [(0, ⟨(xs.map i64v), 3, false, 1⟩), (1, ⟨((List.range n).flatMap (Sp.sgc xs)), 96, true, 4⟩), (2, ⟨[.int .i64 px, .int .i64 py], 24, true, 2⟩), (3, ⟨[.int .i64 (Sp.sgE1 xs u), .int .i64 (Sp.sgE2 xs u), .int .i64 (Sp.sgE3 xs u), .int .i64 (Sp.sgE4 xs u)], 96, true, 2⟩)] ?_ (by subst ex1 ex2 ex3 ex4; kernel_rfl) (by subst ex1 ex2 ex3 ex4; kernel_rfl) (hc := (by simp [closedB, valsB, valB, List.all_eq_true, List.mem_flatMap, List.mem_range, List.mem_map, i64v, Sp.sgc, flat1]; try (intros; simp [valsB, valB, flat1]); try decide))
                  refine aw_p1 (
                    .p (does_i (((j : Nat) : Int) + 1) (wrap_i64 (by omega) (by omega)) .i64) <| .a 1 9 <| .nil _ _) ?_
                  refine then_normal ?_
                  refine al_w [(4, .bool false), (5, .slice (some ⟨1, 0, none⟩) n 0), (6, .pointer (some ⟨2, 0, none⟩)), (8, .pointer (some ⟨3, 0, none⟩)), (25, .slice (some ⟨1, 0, none⟩) n 0), (26, .int .i64 ((n : Nat) : Int)), (27, .int .i64 ((u : Nat) : Int)), (34, .slice (some ⟨1, 0, none⟩) u 0), (35, .int .i64 ((u : Nat) : Int)), (36, .int .i64 (((j + 1) : Nat) : Int))] [(0, ⟨(xs.map i64v), 3, false, 1⟩), (1, ⟨((List.range n).flatMap (Sp.sgc xs)), 96, true, 4⟩), (2, ⟨[.int .i64 px, .int .i64 py], 24, true, 2⟩), (3, ⟨[.int .i64 (Sp.sgE1 xs u), .int .i64 (Sp.sgE2 xs u), .int .i64 (Sp.sgE3 xs u), .int .i64 (Sp.sgE4 xs u)], 96, true, 2⟩)] ?_ (hc := (by simp [closedB, valsB, valB, List.all_eq_true, List.mem_flatMap, List.mem_range, List.mem_map, i64v, Sp.sgc, flat1]; try (intros; simp [valsB, valB, flat1]); try decide))
                  exact ih2 (j + 1) (show ((j + 1) ≤ u) from by omega) (show u - (j + 1) < u - j from by omega)
                · refine aw_d 16907223023 (
                    .a 12 9 <|
                    .p (does_cb _ ((by have h := h6line_ok ax ay bx b_y (by omega) (by omega) (by omega) (by omega) (by omega) (by omega) (by omega) (by omega) (Sp.spx ax ay bx b_y cx cy dx dy) 1 (by omega) (by omega) (by decide) (by decide) (Sp.spy ax ay bx b_y cx cy dx dy) 1 (by omega) (by omega) (by decide) (by decide) (by rw [(Sp.rv_int (Sp.spx ax ay bx b_y cx cy dx dy) (by omega))]; exact (Sp.Bd.mono (N' := 551368) (D' := 13448) (Sp.Bd.mono (N' := 41) (D' := 1) (Sp.Bd.int (Sp.spx ax ay bx b_y cx cy dx dy)) (by omega) (by decide)) (by decide) (by decide))) (by rw [(Sp.rv_int (Sp.spy ax ay bx b_y cx cy dx dy) (by omega))]; exact (Sp.Bd.mono (N' := 551368) (D' := 13448) (Sp.Bd.mono (N' := 41) (D' := 1) (Sp.Bd.int (Sp.spy ax ay bx b_y cx cy dx dy)) (by omega) (by decide)) (by decide) (by decide))); rw [(Sp.rv_int (Sp.spx ax ay bx b_y cx cy dx dy) (by omega)), (Sp.rv_int (Sp.spy ax ay bx b_y cx cy dx dy) (by omega))] at h; exact h)) true ((decide_eq_true (Sp.l6_on (Sp.shr_on (Sp.one_mem hone)).1)))) <|
                    .a 8 9 <|
                    .p (does_cb _ ((by have h := h6line_ok cx cy dx dy (by omega) (by omega) (by omega) (by omega) (by omega) (by omega) (by omega) (by omega) (Sp.spx ax ay bx b_y cx cy dx dy) 1 (by omega) (by omega) (by decide) (by decide) (Sp.spy ax ay bx b_y cx cy dx dy) 1 (by omega) (by omega) (by decide) (by decide) (by rw [(Sp.rv_int (Sp.spx ax ay bx b_y cx cy dx dy) (by omega))]; exact (Sp.Bd.mono (N' := 551368) (D' := 13448) (Sp.Bd.mono (N' := 41) (D' := 1) (Sp.Bd.int (Sp.spx ax ay bx b_y cx cy dx dy)) (by omega) (by decide)) (by decide) (by decide))) (by rw [(Sp.rv_int (Sp.spy ax ay bx b_y cx cy dx dy) (by omega))]; exact (Sp.Bd.mono (N' := 551368) (D' := 13448) (Sp.Bd.mono (N' := 41) (D' := 1) (Sp.Bd.int (Sp.spy ax ay bx b_y cx cy dx dy)) (by omega) (by decide)) (by decide) (by decide))); rw [(Sp.rv_int (Sp.spx ax ay bx b_y cx cy dx dy) (by omega)), (Sp.rv_int (Sp.spy ax ay bx b_y cx cy dx dy) (by omega))] at h; exact h)) true ((decide_eq_true (Sp.l6_on (Sp.shr_on (Sp.one_mem hone)).2)))) <|
                    .a 4 9 <|
                    .p (does_c ((by have h := fabs_ok (Sp.qn (((Sp.spx ax ay bx b_y cx cy dx dy : Int) : Rat) + (-((Sp.spx ax ay bx b_y cx cy dx dy : Int) : Rat)))) (Sp.qd (((Sp.spx ax ay bx b_y cx cy dx dy : Int) : Rat) + (-((Sp.spx ax ay bx b_y cx cy dx dy : Int) : Rat)))) (by have := Sp.qn_bd (((Sp.spx ax ay bx b_y cx cy dx dy : Int) : Rat) + (-((Sp.spx ax ay bx b_y cx cy dx dy : Int) : Rat))); omega) (by have := Sp.qn_bd (((Sp.spx ax ay bx b_y cx cy dx dy : Int) : Rat) + (-((Sp.spx ax ay bx b_y cx cy dx dy : Int) : Rat))); omega) (by have := Sp.qd_bd (((Sp.spx ax ay bx b_y cx cy dx dy : Int) : Rat) + (-((Sp.spx ax ay bx b_y cx cy dx dy : Int) : Rat))); omega) (by have := Sp.qd_bd (((Sp.spx ax ay bx b_y cx cy dx dy : Int) : Rat) + (-((Sp.spx ax ay bx b_y cx cy dx dy : Int) : Rat))); omega); rw [(Sp.rv_fit (q := (((Sp.spx ax ay bx b_y cx cy dx dy : Int) : Rat) + (-((Sp.spx ax ay bx b_y cx cy dx dy : Int) : Rat)))) (Sp.bd_fit (Sp.Bd.add (Sp.Bd.mono (N' := 41) (D' := 1) (Sp.Bd.int (Sp.spx ax ay bx b_y cx cy dx dy)) (by omega) (by decide)) (Sp.Bd.neg (Sp.Bd.mono (N' := 41) (D' := 1) (Sp.Bd.int (Sp.spx ax ay bx b_y cx cy dx dy)) (by omega) (by decide)))) (by decide) (by decide)))] at h; exact h))) <|
                    .a 1 9 <|
                    .p (does_c ((by have h := fcmp_ok (Sp.qn (Sp.rabs (((Sp.spx ax ay bx b_y cx cy dx dy : Int) : Rat) + (-((Sp.spx ax ay bx b_y cx cy dx dy : Int) : Rat))))) (Sp.qd (Sp.rabs (((Sp.spx ax ay bx b_y cx cy dx dy : Int) : Rat) + (-((Sp.spx ax ay bx b_y cx cy dx dy : Int) : Rat))))) (by have := Sp.qn_bd (Sp.rabs (((Sp.spx ax ay bx b_y cx cy dx dy : Int) : Rat) + (-((Sp.spx ax ay bx b_y cx cy dx dy : Int) : Rat)))); omega) (by have := Sp.qn_bd (Sp.rabs (((Sp.spx ax ay bx b_y cx cy dx dy : Int) : Rat) + (-((Sp.spx ax ay bx b_y cx cy dx dy : Int) : Rat)))); omega) (by have := Sp.qd_bd (Sp.rabs (((Sp.spx ax ay bx b_y cx cy dx dy : Int) : Rat) + (-((Sp.spx ax ay bx b_y cx cy dx dy : Int) : Rat)))); omega) (by have := Sp.qd_bd (Sp.rabs (((Sp.spx ax ay bx b_y cx cy dx dy : Int) : Rat) + (-((Sp.spx ax ay bx b_y cx cy dx dy : Int) : Rat)))); omega) 1 2 (by decide) (by decide) (by decide) (by decide); rw [(Sp.rv_fit (q := (Sp.rabs (((Sp.spx ax ay bx b_y cx cy dx dy : Int) : Rat) + (-((Sp.spx ax ay bx b_y cx cy dx dy : Int) : Rat))))) (Sp.fitq_abs (Sp.bd_fit (Sp.Bd.add (Sp.Bd.mono (N' := 41) (D' := 1) (Sp.Bd.int (Sp.spx ax ay bx b_y cx cy dx dy)) (by omega) (by decide)) (Sp.Bd.neg (Sp.Bd.mono (N' := 41) (D' := 1) (Sp.Bd.int (Sp.spx ax ay bx b_y cx cy dx dy)) (by omega) (by decide)))) (by decide) (by decide))))] at h; exact h))) <|
                    .p (does_b false (((Sp.rcmp_pos (Sp.rabs (((Sp.spx ax ay bx b_y cx cy dx dy : Int) : Rat) + (-((Sp.spx ax ay bx b_y cx cy dx dy : Int) : Rat)))) (Sp.rv 1 2))).trans ((decide_eq_false (Rat.not_lt.2 (Sp.rnd_half' _)))))) <| .a 2 9 <| .p (does_b false (h12)) <| .a 6 9 <| .nil _ _) ?_
                  refine aw_fl 33814446047 ?_
                  refine aw_sk ?_
                  refine block_normal ?_
                  refine block_normal ?_
                  refine then_normal ?_
                  refine aw_w [(4, .bool false), (5, .slice (some ⟨1, 0, none⟩) n 0), (6, .pointer (some ⟨2, 0, none⟩)), (8, .pointer (some ⟨3, 0, none⟩)), (25, .slice (some ⟨1, 0, none⟩) n 0), (26, .int .i64 ((n : Nat) : Int)), (27, .int .i64 ((u : Nat) : Int)), (34, .slice (some ⟨1, 0, none⟩) u 0), (35, .int .i64 ((u : Nat) : Int)), (36, .int .i64 ((j : Nat) : Int))] [(0, ⟨(xs.map i64v), 3, false, 1⟩), (1, ⟨((List.range n).flatMap (Sp.sgc xs)), 96, true, 4⟩), (2, ⟨[.int .i64 px, .int .i64 py], 24, true, 2⟩), (3, ⟨[.int .i64 (Sp.sgE1 xs u), .int .i64 (Sp.sgE2 xs u), .int .i64 (Sp.sgE3 xs u), .int .i64 (Sp.sgE4 xs u)], 96, true, 2⟩)] ?_ (by subst ex1 ex2 ex3 ex4; kernel_rfl) (by subst ex1 ex2 ex3 ex4; kernel_rfl) (hc := (by simp [closedB, valsB, valB, List.all_eq_true, List.mem_flatMap, List.mem_range, List.mem_map, i64v, Sp.sgc, flat1]; try (intros; simp [valsB, valB, flat1]); try decide))
                  refine aw_p1 (
                    .p (does_i (((j : Nat) : Int) + 1) (wrap_i64 (by omega) (by omega)) .i64) <| .a 1 9 <| .nil _ _) ?_
                  refine then_normal ?_
                  refine al_w [(4, .bool false), (5, .slice (some ⟨1, 0, none⟩) n 0), (6, .pointer (some ⟨2, 0, none⟩)), (8, .pointer (some ⟨3, 0, none⟩)), (25, .slice (some ⟨1, 0, none⟩) n 0), (26, .int .i64 ((n : Nat) : Int)), (27, .int .i64 ((u : Nat) : Int)), (34, .slice (some ⟨1, 0, none⟩) u 0), (35, .int .i64 ((u : Nat) : Int)), (36, .int .i64 (((j + 1) : Nat) : Int))] [(0, ⟨(xs.map i64v), 3, false, 1⟩), (1, ⟨((List.range n).flatMap (Sp.sgc xs)), 96, true, 4⟩), (2, ⟨[.int .i64 px, .int .i64 py], 24, true, 2⟩), (3, ⟨[.int .i64 (Sp.sgE1 xs u), .int .i64 (Sp.sgE2 xs u), .int .i64 (Sp.sgE3 xs u), .int .i64 (Sp.sgE4 xs u)], 96, true, 2⟩)] ?_ (hc := (by simp [closedB, valsB, valB, List.all_eq_true, List.mem_flatMap, List.mem_range, List.mem_map, i64v, Sp.sgc, flat1]; try (intros; simp [valsB, valB, flat1]); try decide))
                  exact ih2 (j + 1) (show ((j + 1) ≤ u) from by omega) (show u - (j + 1) < u - j from by omega)
              · refine aw_p 16510959 (
                  .a 5 6 <| .p (does_cb _ (on_in ax ay bx b_y px py (by omega) (by omega) (by omega) (by omega) (by omega) (by omega) (by omega) (by omega) (by omega) (by omega) (by omega) (by omega)) false (h11)) <| .a 9 6 <| .nil _ _) ?_
                refine aw_p 33021919 (
                  .a 8 6 <| .p (does_c (segmeet_in ax ay bx b_y cx cy dx dy (by omega) (by omega) (by omega) (by omega) (by omega) (by omega) (by omega) (by omega) (by omega) (by omega) (by omega) (by omega) (by omega) (by omega) (by omega) (by omega))) <| .nil _ _) ?_
                refine aw_bl 4 66043839 ?_
                refine aw_p 132087679 (
                  .p (does_b false ((beq_eq_false_iff_ne.2 (of_decide_eq_false h4)))) <| .a 1 6 <| .nil _ _) ?_
                refine aw_fl 264175359 ?_
                refine aw_p 528350719 (
                  .p (does_b true ((show ((Sp.meetN ax ay bx b_y cx cy dx dy) == 1) = true from (by rw [Sp.meetN_one hone]; rfl)))) <| .a 1 6 <| .nil _ _) ?_
                refine aw_tr 1056701438 ?_
                refine aw_p 2113402877 (
                  .a 1 6 <|
                  .p (does_c ((by have h := segsnap_ok (Sp.spx ax ay bx b_y cx cy dx dy) 1 (by omega) (by omega) (by decide) (by decide) (Sp.spy ax ay bx b_y cx cy dx dy) 1 (by omega) (by omega) (by decide) (by decide); rw [(Sp.rv_int (Sp.spx ax ay bx b_y cx cy dx dy) (by omega)), (Sp.rv_int (Sp.spy ax ay bx b_y cx cy dx dy) (by omega)), Sp.rnd_int (Sp.spx ax ay bx b_y cx cy dx dy), Sp.rnd_int (Sp.spy ax ay bx b_y cx cy dx dy), Sp.lim_id (m := 1048576) (n := Sp.spx ax ay bx b_y cx cy dx dy) (by omega) (by omega), Sp.lim_id (m := 1048576) (n := Sp.spy ax ay bx b_y cx cy dx dy) (by omega) (by omega)] at h; exact h))) <|
                  .a 2 6 <| .nil _ _) ?_
                refine aw_d 4226805755 (
                  .a 4 7 <| .p (does_c ((by have h := fof_ok (Sp.spx ax ay bx b_y cx cy dx dy); rw [Sp.mx_id (by omega)] at h; exact h))) <|
                  .p (does_c ((by have h := fsub_ok (Sp.spx ax ay bx b_y cx cy dx dy) 1 (by omega) (by omega) (by decide) (by decide) (Sp.spx ax ay bx b_y cx cy dx dy) 1 (by omega) (by omega) (by decide) (by decide); rw [(Sp.rv_int (Sp.spx ax ay bx b_y cx cy dx dy) (by omega)), (Sp.qe_fit (q := (((Sp.spx ax ay bx b_y cx cy dx dy : Int) : Rat) + (-((Sp.spx ax ay bx b_y cx cy dx dy : Int) : Rat)))) (Sp.bd_fit (Sp.Bd.add (Sp.Bd.mono (N' := 41) (D' := 1) (Sp.Bd.int (Sp.spx ax ay bx b_y cx cy dx dy)) (by omega) (by decide)) (Sp.Bd.neg (Sp.Bd.mono (N' := 41) (D' := 1) (Sp.Bd.int (Sp.spx ax ay bx b_y cx cy dx dy)) (by omega) (by decide)))) (by decide) (by decide)))] at h; exact h))) <|
                  .a 6 7 <| .nil _ _) ?_
                refine aw_p 8453611511 (
                  .p (does_c ((by have h := fmake_ok 1 2 (by decide) (by decide) (by decide) (by decide); rw [show Sp.dvn ((1 : Int) : Rat) ((2 : Int) : Rat) = 1 from by decide +kernel, show Sp.dvd ((1 : Int) : Rat) ((2 : Int) : Rat) = 2 from by decide +kernel, show Sp.dve ((1 : Int) : Rat) ((2 : Int) : Rat) = 0 from by decide +kernel] at h; exact h))) <|
                  .a 6 8 <| .nil _ _) ?_
                refine aw_d 16907223023 (
                  .a 12 9 <|
                  .p (does_cb _ ((by have h := h6line_ok ax ay bx b_y (by omega) (by omega) (by omega) (by omega) (by omega) (by omega) (by omega) (by omega) (Sp.spx ax ay bx b_y cx cy dx dy) 1 (by omega) (by omega) (by decide) (by decide) (Sp.spy ax ay bx b_y cx cy dx dy) 1 (by omega) (by omega) (by decide) (by decide) (by rw [(Sp.rv_int (Sp.spx ax ay bx b_y cx cy dx dy) (by omega))]; exact (Sp.Bd.mono (N' := 551368) (D' := 13448) (Sp.Bd.mono (N' := 41) (D' := 1) (Sp.Bd.int (Sp.spx ax ay bx b_y cx cy dx dy)) (by omega) (by decide)) (by decide) (by decide))) (by rw [(Sp.rv_int (Sp.spy ax ay bx b_y cx cy dx dy) (by omega))]; exact (Sp.Bd.mono (N' := 551368) (D' := 13448) (Sp.Bd.mono (N' := 41) (D' := 1) (Sp.Bd.int (Sp.spy ax ay bx b_y cx cy dx dy)) (by omega) (by decide)) (by decide) (by decide))); rw [(Sp.rv_int (Sp.spx ax ay bx b_y cx cy dx dy) (by omega)), (Sp.rv_int (Sp.spy ax ay bx b_y cx cy dx dy) (by omega))] at h; exact h)) true ((decide_eq_true (Sp.l6_on (Sp.shr_on (Sp.one_mem hone)).1)))) <|
                  .a 8 9 <|
                  .p (does_cb _ ((by have h := h6line_ok cx cy dx dy (by omega) (by omega) (by omega) (by omega) (by omega) (by omega) (by omega) (by omega) (Sp.spx ax ay bx b_y cx cy dx dy) 1 (by omega) (by omega) (by decide) (by decide) (Sp.spy ax ay bx b_y cx cy dx dy) 1 (by omega) (by omega) (by decide) (by decide) (by rw [(Sp.rv_int (Sp.spx ax ay bx b_y cx cy dx dy) (by omega))]; exact (Sp.Bd.mono (N' := 551368) (D' := 13448) (Sp.Bd.mono (N' := 41) (D' := 1) (Sp.Bd.int (Sp.spx ax ay bx b_y cx cy dx dy)) (by omega) (by decide)) (by decide) (by decide))) (by rw [(Sp.rv_int (Sp.spy ax ay bx b_y cx cy dx dy) (by omega))]; exact (Sp.Bd.mono (N' := 551368) (D' := 13448) (Sp.Bd.mono (N' := 41) (D' := 1) (Sp.Bd.int (Sp.spy ax ay bx b_y cx cy dx dy)) (by omega) (by decide)) (by decide) (by decide))); rw [(Sp.rv_int (Sp.spx ax ay bx b_y cx cy dx dy) (by omega)), (Sp.rv_int (Sp.spy ax ay bx b_y cx cy dx dy) (by omega))] at h; exact h)) true ((decide_eq_true (Sp.l6_on (Sp.shr_on (Sp.one_mem hone)).2)))) <|
                  .a 4 9 <|
                  .p (does_c ((by have h := fabs_ok (Sp.qn (((Sp.spx ax ay bx b_y cx cy dx dy : Int) : Rat) + (-((Sp.spx ax ay bx b_y cx cy dx dy : Int) : Rat)))) (Sp.qd (((Sp.spx ax ay bx b_y cx cy dx dy : Int) : Rat) + (-((Sp.spx ax ay bx b_y cx cy dx dy : Int) : Rat)))) (by have := Sp.qn_bd (((Sp.spx ax ay bx b_y cx cy dx dy : Int) : Rat) + (-((Sp.spx ax ay bx b_y cx cy dx dy : Int) : Rat))); omega) (by have := Sp.qn_bd (((Sp.spx ax ay bx b_y cx cy dx dy : Int) : Rat) + (-((Sp.spx ax ay bx b_y cx cy dx dy : Int) : Rat))); omega) (by have := Sp.qd_bd (((Sp.spx ax ay bx b_y cx cy dx dy : Int) : Rat) + (-((Sp.spx ax ay bx b_y cx cy dx dy : Int) : Rat))); omega) (by have := Sp.qd_bd (((Sp.spx ax ay bx b_y cx cy dx dy : Int) : Rat) + (-((Sp.spx ax ay bx b_y cx cy dx dy : Int) : Rat))); omega); rw [(Sp.rv_fit (q := (((Sp.spx ax ay bx b_y cx cy dx dy : Int) : Rat) + (-((Sp.spx ax ay bx b_y cx cy dx dy : Int) : Rat)))) (Sp.bd_fit (Sp.Bd.add (Sp.Bd.mono (N' := 41) (D' := 1) (Sp.Bd.int (Sp.spx ax ay bx b_y cx cy dx dy)) (by omega) (by decide)) (Sp.Bd.neg (Sp.Bd.mono (N' := 41) (D' := 1) (Sp.Bd.int (Sp.spx ax ay bx b_y cx cy dx dy)) (by omega) (by decide)))) (by decide) (by decide)))] at h; exact h))) <|
                  .a 1 9 <|
                  .p (does_c ((by have h := fcmp_ok (Sp.qn (Sp.rabs (((Sp.spx ax ay bx b_y cx cy dx dy : Int) : Rat) + (-((Sp.spx ax ay bx b_y cx cy dx dy : Int) : Rat))))) (Sp.qd (Sp.rabs (((Sp.spx ax ay bx b_y cx cy dx dy : Int) : Rat) + (-((Sp.spx ax ay bx b_y cx cy dx dy : Int) : Rat))))) (by have := Sp.qn_bd (Sp.rabs (((Sp.spx ax ay bx b_y cx cy dx dy : Int) : Rat) + (-((Sp.spx ax ay bx b_y cx cy dx dy : Int) : Rat)))); omega) (by have := Sp.qn_bd (Sp.rabs (((Sp.spx ax ay bx b_y cx cy dx dy : Int) : Rat) + (-((Sp.spx ax ay bx b_y cx cy dx dy : Int) : Rat)))); omega) (by have := Sp.qd_bd (Sp.rabs (((Sp.spx ax ay bx b_y cx cy dx dy : Int) : Rat) + (-((Sp.spx ax ay bx b_y cx cy dx dy : Int) : Rat)))); omega) (by have := Sp.qd_bd (Sp.rabs (((Sp.spx ax ay bx b_y cx cy dx dy : Int) : Rat) + (-((Sp.spx ax ay bx b_y cx cy dx dy : Int) : Rat)))); omega) 1 2 (by decide) (by decide) (by decide) (by decide); rw [(Sp.rv_fit (q := (Sp.rabs (((Sp.spx ax ay bx b_y cx cy dx dy : Int) : Rat) + (-((Sp.spx ax ay bx b_y cx cy dx dy : Int) : Rat))))) (Sp.fitq_abs (Sp.bd_fit (Sp.Bd.add (Sp.Bd.mono (N' := 41) (D' := 1) (Sp.Bd.int (Sp.spx ax ay bx b_y cx cy dx dy)) (by omega) (by decide)) (Sp.Bd.neg (Sp.Bd.mono (N' := 41) (D' := 1) (Sp.Bd.int (Sp.spx ax ay bx b_y cx cy dx dy)) (by omega) (by decide)))) (by decide) (by decide))))] at h; exact h))) <|
                  .p (does_b false (((Sp.rcmp_pos (Sp.rabs (((Sp.spx ax ay bx b_y cx cy dx dy : Int) : Rat) + (-((Sp.spx ax ay bx b_y cx cy dx dy : Int) : Rat)))) (Sp.rv 1 2))).trans ((decide_eq_false (Rat.not_lt.2 (Sp.rnd_half' _)))))) <| .a 9 9 <| .nil _ _) ?_
                refine aw_fl 33814446047 ?_
                refine aw_sk ?_
                refine block_normal ?_
                refine block_normal ?_
                refine then_normal ?_
                refine aw_w [(4, .bool false), (5, .slice (some ⟨1, 0, none⟩) n 0), (6, .pointer (some ⟨2, 0, none⟩)), (8, .pointer (some ⟨3, 0, none⟩)), (25, .slice (some ⟨1, 0, none⟩) n 0), (26, .int .i64 ((n : Nat) : Int)), (27, .int .i64 ((u : Nat) : Int)), (34, .slice (some ⟨1, 0, none⟩) u 0), (35, .int .i64 ((u : Nat) : Int)), (36, .int .i64 ((j : Nat) : Int))] [(0, ⟨(xs.map i64v), 3, false, 1⟩), (1, ⟨((List.range n).flatMap (Sp.sgc xs)), 96, true, 4⟩), (2, ⟨[.int .i64 px, .int .i64 py], 24, true, 2⟩), (3, ⟨[.int .i64 (Sp.sgE1 xs u), .int .i64 (Sp.sgE2 xs u), .int .i64 (Sp.sgE3 xs u), .int .i64 (Sp.sgE4 xs u)], 96, true, 2⟩)] ?_ (by subst ex1 ex2 ex3 ex4; kernel_rfl) (by subst ex1 ex2 ex3 ex4; kernel_rfl) (hc := (by simp [closedB, valsB, valB, List.all_eq_true, List.mem_flatMap, List.mem_range, List.mem_map, i64v, Sp.sgc, flat1]; try (intros; simp [valsB, valB, flat1]); try decide))
                refine aw_p1 (
                  .p (does_i (((j : Nat) : Int) + 1) (wrap_i64 (by omega) (by omega)) .i64) <| .a 1 9 <| .nil _ _) ?_
                refine then_normal ?_
                refine al_w [(4, .bool false), (5, .slice (some ⟨1, 0, none⟩) n 0), (6, .pointer (some ⟨2, 0, none⟩)), (8, .pointer (some ⟨3, 0, none⟩)), (25, .slice (some ⟨1, 0, none⟩) n 0), (26, .int .i64 ((n : Nat) : Int)), (27, .int .i64 ((u : Nat) : Int)), (34, .slice (some ⟨1, 0, none⟩) u 0), (35, .int .i64 ((u : Nat) : Int)), (36, .int .i64 (((j + 1) : Nat) : Int))] [(0, ⟨(xs.map i64v), 3, false, 1⟩), (1, ⟨((List.range n).flatMap (Sp.sgc xs)), 96, true, 4⟩), (2, ⟨[.int .i64 px, .int .i64 py], 24, true, 2⟩), (3, ⟨[.int .i64 (Sp.sgE1 xs u), .int .i64 (Sp.sgE2 xs u), .int .i64 (Sp.sgE3 xs u), .int .i64 (Sp.sgE4 xs u)], 96, true, 2⟩)] ?_ (hc := (by simp [closedB, valsB, valB, List.all_eq_true, List.mem_flatMap, List.mem_range, List.mem_map, i64v, Sp.sgc, flat1]; try (intros; simp [valsB, valB, flat1]); try decide))
                exact ih2 (j + 1) (show ((j + 1) ≤ u) from by omega) (show u - (j + 1) < u - j from by omega)
      · have h3p : ¬ ((((j : Nat) : Int) < ((u : Nat) : Int))) := by first | (simpa using h3) | (have h3q := h3; simp at h3q; omega) | (have h3q := bx2 h3; simp at h3q; omega)
        refine aw_ex 2 ?_
        refine then_exit ?_
        refine then_exit ?_
        refine block_exit ?_
        refine block_normal ?_
        refine then_normal ?_
        refine aw_p1 (
          .p (does_i (((u : Nat) : Int) + 1) (wrap_i64 (by omega) (by omega)) .i64) <| .a 1 4 <| .nil _ _) ?_
        refine then_normal ?_
        refine al_w [(4, .bool false), (5, .slice (some ⟨1, 0, none⟩) n 0), (6, .pointer (some ⟨2, 0, none⟩)), (25, .slice (some ⟨1, 0, none⟩) n 0), (26, .int .i64 ((n : Nat) : Int)), (27, .int .i64 (((u + 1) : Nat) : Int))] [(0, ⟨(xs.map i64v), 3, false, 1⟩), (1, ⟨((List.range n).flatMap (Sp.sgc xs)), 96, true, 4⟩), (2, ⟨[.int .i64 px, .int .i64 py], 24, true, 2⟩)] ?_ (hc := (by simp [closedB, valsB, valB, List.all_eq_true, List.mem_flatMap, List.mem_range, List.mem_map, i64v, Sp.sgc, flat1]; try (intros; simp [valsB, valB, flat1]); try decide))
        exact ih1 (u + 1) (show ((u + 1) ≤ n) from by omega) (show n - (u + 1) < n - u from by omega)
    · have h2p : ¬ ((((u : Nat) : Int) < ((n : Nat) : Int))) := by first | (simpa using h2) | (have h2q := h2; simp at h2q; omega) | (have h2q := bx2 h2; simp at h2q; omega)
      refine aw_ex 0 ?_
      refine then_exit ?_
      refine then_exit ?_
      refine block_exit ?_
      refine then_normal ?_
      refine aw_p 127 (
        .a 1 3 <| .nil _ _) ?_
      refine aw_rt ?_
      exact en_ret [.bool true] (by kernel_rfl)


end Go.Proofs.Ytigllakcfdoagaa.Am
