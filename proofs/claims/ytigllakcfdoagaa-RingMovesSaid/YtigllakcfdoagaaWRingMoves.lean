/-
  The walk of the law RingMoves.
-/
import Derived.Test.YtigllakcfdoagaaProg
import Derived.Test.YtigllakcfdoagaaAm16
import Derived.Test.YtigllakcfdoagaaRh
import Derived.Test.YtigllakcfdoagaaRm2
import Derived.Test.YtigllakcfdoagaaRb
import Derived.Test.YtigllakcfdoagaaPt1
namespace Go.Proofs.Ytigllakcfdoagaa.Am
open Go Go.Proofs
set_option maxRecDepth 100000
set_option maxHeartbeats 4000000
set_option linter.unusedVariables false
set_option linter.unusedSimpArgs false

theorem ringMoves_walk (xs : List Int) (ps : List (Int × Int)) (hl : 3 ≤ ps.length ∧ ps.length ≤ 8) (hf : Sp.Few 40 ps) (hm : AC Try.prog 64 1 [.slice (some ⟨0, 0, none⟩) xs.length 0] [(0, ⟨(xs.map i64v), 3, false, 1⟩)] (.slice (some ⟨1, 0, none⟩) ps.length 0) [(1, ⟨(ps.flatMap ptc), 24, true, 2⟩)]) (u z a b c d : Int) (hu : AC Try.prog 16 0 [.int .i64 u] [] (.agg #[.int .i64 a, .int .i64 b]) []) (hz : AC Try.prog 16 0 [.int .i64 z] [] (.agg #[.int .i64 c, .int .i64 d]) []) (ba : -40 ≤ a) (ca : a ≤ 40) (bb : -40 ≤ b) (cb : b ≤ 40) (bc : -40 ≤ c) (cc : c ≤ 40) (bd : -40 ≤ d) (cd : d ≤ 40) :
    AC Try.prog 10 1 ([.slice (some ⟨0, 0, none⟩) xs.length 0, .int .i64 u, .int .i64 z]) [(0, ⟨(xs.map i64v), 3, false, 1⟩)] (.bool true) [] := by
  have f0 := hf 0
  refine ac_in Try.func10 (fun w0 W pin => ?_)
  refine aw_p 3 (
    .a 1 1 <| .nil _ _) ?_
  refine aw_sq 6 7 ?_
  refine aw_p 13 (
    .p (does_c (terrkeep1_ringBegun_ok)) <| .a 1 1 <| .nil _ _) ?_
  refine aw_fl 27 ?_
  refine aw_sk ?_
  refine then_normal ?_
  refine aw_p 15 (
    .a 1 1 <|
    .p (does_callB (x := .func 64) (ars := #[.tmp 17]) (ats := #[82]) (g := 64) (vs := [.slice (some ⟨0, 0, none⟩) xs.length 0]) (m := 1) (r := 1) (firsts := #[]) (caps := #[]) (args0 := [.slice (some ⟨0, 0, none⟩) xs.length 0]) (pre0 := [(0, ⟨(xs.map i64v), 3, false, 1⟩)]) (post0 := [(1, ⟨(ps.flatMap ptc), 24, true, 2⟩)]) (pre := [(0, ⟨(xs.map i64v), 3, false, 1⟩)]) (post := [(1, ⟨(ps.flatMap ptc), 24, true, 2⟩)]) (v0 := .slice (some ⟨1, 0, none⟩) ps.length 0) (v := .slice (some ⟨1, 0, none⟩) ps.length 0) [0, 1] (by kernel_rfl) (by kernel_rfl) (by kernel_rfl) (by kernel_rfl) (hm) (.cons (.slice _ _ _ _ _ (by decide)) .nil) ⟨rfl, ⟨rfl, rfl, rfl, (.flats (flats_map (fun _ => rfl) _))⟩, trivial⟩ (by kernel_rfl) (by kernel_rfl) (by kernel_rfl) ⟨rfl, ⟨rfl, rfl, rfl, (.flats (flats_pair _))⟩, trivial⟩ (.slice _ _ _ _ _ (by decide))) <|
    .a 1 2 <| .p (does_c (hu)) <| .a 1 2 <| .p (does_c (hz)) <| .a 5 2 <| .nil _ _) ?_
  refine aw_p 31 (
    .a 2 4 <| .nil _ _) ?_
  refine aw_sq 62 63 ?_
  refine aw_p 125 (
    .a 3 4 <| .nil _ _) ?_
  refine aw_bl 0 251 ?_
  refine aw_lp 503 ?_
  refine al_round ?_
  refine aw_p 1007 (
    .p (does_b true ((show (decide (0 < ((ps.length : Nat) : Int))) = true from decide_eq_true (by omega)))) <| .nil _ _) ?_
  refine aw_sq 2014 2015 ?_
  refine aw_tr 4028 ?_
  refine aw_sk ?_
  refine then_normal ?_
  refine aw_sq 4030 4031 ?_
  refine aw_bl 1 8061 ?_
  refine aw_p 16123 (
    .p (does_indexSlice (t := 37) (x := .tmp 23) (y := .tmp 25) (k := 1) (off := 0) (n := ps.length) (c := 0) (z := 2) (kd := .i64) (j := 0) (by kernel_rfl) (by kernel_rfl) (by kernel_rfl) (by kernel_rfl) (by kernel_rfl) (by omega) (by omega)) <|
    .p (does_load (t := 24) (x := .tmp 27) (k := 1) (off := 0) (b := ⟨(ps.flatMap ptc), 24, true, 2⟩) (v := .agg #[.int .i64 ((ps.getD 0 (0, 0)).1), .int .i64 ((ps.getD 0 (0, 0)).2)]) (by kernel_rfl) (by kernel_rfl) (by kernel_rfl) (ldV_pair (j := 0) (by kernel_rfl) (by kernel_rfl) (by omega) (by omega))) <|
    .a 2 4 <| .nil _ _) ?_
  refine aw_p 32247 (
    .a 5 5 <| .p (does_i (((ps.getD 0 (0, 0)).1) + c) (wrap_i64 (by omega) (by omega)) .i64) <| .a 4 5 <| .p (does_i (((ps.getD 0 (0, 0)).2) + d) (wrap_i64 (by omega) (by omega)) .i64) <| .p (does_c (terrkeep1_at_ok (((ps.getD 0 (0, 0)).1) + c) (((ps.getD 0 (0, 0)).2) + d))) <| .a 1 5 <|
    .p (does_ap 6) <| .a 1 7 <| .nil _ _) ?_
  refine aw_p1 (
    .a 3 7 <| .p (does_i (0 - ((ps.getD 0 (0, 0)).2)) (wrap_i64 (by omega) (by omega)) .i64) <| .a 2 7 <| .p (does_c (terrkeep1_at_ok (0 - ((ps.getD 0 (0, 0)).2)) ((ps.getD 0 (0, 0)).1))) <| .a 1 7 <| .p (does_ap 8) <| .a 1 9 <| .nil _ _) ?_
  refine block_normal ?_
  refine then_normal ?_
  have h1_10 : ((ps.take 1).map (Sp.move2 (c, d))).flatMap ptc = [.int .i64 (((ps.getD 0 (0, 0)).1) + c), .int .i64 (((ps.getD 0 (0, 0)).2) + d)] := Sp.one_take (by omega) (by simp only [ptc, Sp.turn4, Sp.move2, Int.zero_sub])
  have h1_11 : ((ps.take 1).map Sp.turn4).flatMap ptc = [.int .i64 (0 - ((ps.getD 0 (0, 0)).2)), .int .i64 ((ps.getD 0 (0, 0)).1)] := Sp.one_take (by omega) (by simp only [ptc, Sp.turn4, Sp.move2, Int.zero_sub])
  refine aw_w [(7, .slice (some ⟨1, 0, none⟩) ps.length 0), (8, .pointer (some ⟨2, 0, none⟩)), (9, .pointer (some ⟨3, 0, none⟩)), (10, .slice (some ⟨6, 0, none⟩) 1 0), (11, .slice (some ⟨8, 0, none⟩) 1 0), (23, .slice (some ⟨1, 0, none⟩) ps.length 0), (24, .int .i64 ((ps.length : Nat) : Int)), (25, .int .i64 0)] [(0, ⟨(xs.map i64v), 3, false, 1⟩), (1, ⟨(ps.flatMap ptc), 24, true, 2⟩), (2, ⟨[.int .i64 a, .int .i64 b], 24, true, 2⟩), (3, ⟨[.int .i64 c, .int .i64 d], 24, true, 2⟩), (6, ⟨(((ps.take 1).map (Sp.move2 (c, d))).flatMap ptc), 24, true, 2⟩), (8, ⟨(((ps.take 1).map Sp.turn4).flatMap ptc), 24, true, 2⟩)] ?_ (by kernel_rfl) (by rw [h1_10, h1_11]; kernel_rfl) (hc := (by simp [closedB, valsB, valB, List.all_eq_true, List.mem_flatMap, List.mem_range, List.mem_map, i64v, ptc, Sp.move2, Sp.turn4, flat1]; try (intros; simp [valsB, valB, flat1]); try decide))
  refine aw_p1 (
    .a 2 9 <| .nil _ _) ?_
  refine then_normal ?_
  refine al_w [(7, .slice (some ⟨1, 0, none⟩) ps.length 0), (8, .pointer (some ⟨2, 0, none⟩)), (9, .pointer (some ⟨3, 0, none⟩)), (10, .slice (some ⟨6, 0, none⟩) 1 0), (11, .slice (some ⟨8, 0, none⟩) 1 0), (23, .slice (some ⟨1, 0, none⟩) ps.length 0), (24, .int .i64 ((ps.length : Nat) : Int)), (25, .int .i64 ((1 : Nat) : Int))] [(0, ⟨(xs.map i64v), 3, false, 1⟩), (1, ⟨(ps.flatMap ptc), 24, true, 2⟩), (2, ⟨[.int .i64 a, .int .i64 b], 24, true, 2⟩), (3, ⟨[.int .i64 c, .int .i64 d], 24, true, 2⟩), (6, ⟨(((ps.take 1).map (Sp.move2 (c, d))).flatMap ptc), 24, true, 2⟩), (8, ⟨(((ps.take 1).map Sp.turn4).flatMap ptc), 24, true, 2⟩)] ?_ (hc := (by simp [closedB, valsB, valB, List.all_eq_true, List.mem_flatMap, List.mem_range, List.mem_map, i64v, ptc, Sp.move2, Sp.turn4, flat1]; try (intros; simp [valsB, valB, flat1]); try decide))
  refine al_ind (fun i : Nat => (fun (i : Nat) => mkSt 1 [(7, .slice (some ⟨1, 0, none⟩) ps.length 0), (8, .pointer (some ⟨2, 0, none⟩)), (9, .pointer (some ⟨3, 0, none⟩)), (10, .slice (some ⟨6, 0, none⟩) i 0), (11, .slice (some ⟨8, 0, none⟩) i 0), (23, .slice (some ⟨1, 0, none⟩) ps.length 0), (24, .int .i64 ((ps.length : Nat) : Int)), (25, .int .i64 ((i : Nat) : Int))] [(0, ⟨(xs.map i64v), 3, false, 1⟩), (1, ⟨(ps.flatMap ptc), 24, true, 2⟩), (2, ⟨[.int .i64 a, .int .i64 b], 24, true, 2⟩), (3, ⟨[.int .i64 c, .int .i64 d], 24, true, 2⟩), (6, ⟨(((ps.take i).map (Sp.move2 (c, d))).flatMap ptc), 24, true, 2⟩), (8, ⟨(((ps.take i).map Sp.turn4).flatMap ptc), 24, true, 2⟩)]) i) (fun i : Nat => (fun (i : Nat) => (1 ≤ i ∧ i ≤ ps.length)) i) (fun i : Nat => (fun (i : Nat) => ps.length - i) i) (fun i hi1 ih1 => ?_) 1 (show (1 ≤ 1 ∧ 1 ≤ ps.length) from by omega)
  obtain ⟨i, hv1⟩ : ∃ z, z = i := ⟨i, rfl⟩; subst hv1
  have hi1' : (1 ≤ i ∧ i ≤ ps.length) := hi1
  have hi : 1 ≤ i ∧ i ≤ ps.length := hi1'
  show AL _ _ _ (mkSt 1 [(7, .slice (some ⟨1, 0, none⟩) ps.length 0), (8, .pointer (some ⟨2, 0, none⟩)), (9, .pointer (some ⟨3, 0, none⟩)), (10, .slice (some ⟨6, 0, none⟩) i 0), (11, .slice (some ⟨8, 0, none⟩) i 0), (23, .slice (some ⟨1, 0, none⟩) ps.length 0), (24, .int .i64 ((ps.length : Nat) : Int)), (25, .int .i64 ((i : Nat) : Int))] [(0, ⟨(xs.map i64v), 3, false, 1⟩), (1, ⟨(ps.flatMap ptc), 24, true, 2⟩), (2, ⟨[.int .i64 a, .int .i64 b], 24, true, 2⟩), (3, ⟨[.int .i64 c, .int .i64 d], 24, true, 2⟩), (6, ⟨(((ps.take i).map (Sp.move2 (c, d))).flatMap ptc), 24, true, 2⟩), (8, ⟨(((ps.take i).map Sp.turn4).flatMap ptc), 24, true, 2⟩)]) _
  refine al_round ?_
  refine aw_p 1007 (
    .a 1 9 <| .nil _ _) ?_
  refine aw_sq 2014 2015 ?_
  refine aw_cd 4028 4029 (decide (((i : Nat) : Int) < ((ps.length : Nat) : Int))) (fun h1 => ?_) (fun h1 => ?_)
  · have h1p : ((((i : Nat) : Int) < ((ps.length : Nat) : Int))) := by first | (simpa using h1) | (have h1q := h1; simp at h1q; omega) | (have h1q := bx1 h1; simp at h1q; omega)
    have hil : i < ps.length := by omega
    have fi := hf i
    refine aw_sk ?_
    refine then_normal ?_
    refine aw_sq 4030 4031 ?_
    refine aw_bl 1 8061 ?_
    refine aw_p 16123 (
      .p (does_indexSlice (t := 37) (x := .tmp 23) (y := .tmp 25) (k := 1) (off := 0) (n := ps.length) (c := 0) (z := 2) (kd := .i64) (j := ((i : Nat) : Int)) (by kernel_rfl) (by kernel_rfl) (by kernel_rfl) (by kernel_rfl) (by kernel_rfl) (by omega) (by omega)) <|
      .p (does_load (t := 24) (x := .tmp 27) (k := 1) (off := (0 + (((i : Nat) : Int)).toNat * 2)) (b := ⟨(ps.flatMap ptc), 24, true, 2⟩) (v := .agg #[.int .i64 ((ps.getD i (0, 0)).1), .int .i64 ((ps.getD i (0, 0)).2)]) (by kernel_rfl) (by kernel_rfl) (by kernel_rfl) (ldV_pair (j := i) (by kernel_rfl) (by kernel_rfl) (by omega) (by omega))) <|
      .a 2 9 <| .nil _ _) ?_
    refine aw_p 32247 (
      .a 5 10 <| .p (does_i (((ps.getD i (0, 0)).1) + c) (wrap_i64 (by omega) (by omega)) .i64) <| .a 4 10 <| .p (does_i (((ps.getD i (0, 0)).2) + d) (wrap_i64 (by omega) (by omega)) .i64) <| .p (does_c (terrkeep1_at_ok (((ps.getD i (0, 0)).1) + c) (((ps.getD i (0, 0)).2) + d))) <| .a 1 10 <|
      .p (does_apy 11 24 2 16 6 i 10 1 ⟨(((ps.take i).map (Sp.move2 (c, d))).flatMap ptc), 24, true, 2⟩ ⟨[.int .i64 (((ps.getD i (0, 0)).1) + c), .int .i64 (((ps.getD i (0, 0)).2) + d)], 24, true, 2⟩ (((ps.take (i + 1)).map (Sp.move2 (c, d))).flatMap ptc) (by kernel_rfl) (by kernel_rfl) (by kernel_rfl) (by kernel_rfl) (by kernel_rfl) (by rw [pairs_length]; simp; omega) (by omega) (by omega) (Sp.snoc_take hil (by simp only [ptc, Sp.turn4, Sp.move2, Int.zero_sub]))) <|
      .a 1 12 <| .nil _ _) ?_
    refine aw_p1 (
      .a 3 12 <| .p (does_i (0 - ((ps.getD i (0, 0)).2)) (wrap_i64 (by omega) (by omega)) .i64) <| .a 2 12 <| .p (does_c (terrkeep1_at_ok (0 - ((ps.getD i (0, 0)).2)) ((ps.getD i (0, 0)).1))) <| .a 1 12 <|
      .p (does_apy 13 24 2 16 8 i 12 1 ⟨(((ps.take i).map Sp.turn4).flatMap ptc), 24, true, 2⟩ ⟨[.int .i64 (0 - ((ps.getD i (0, 0)).2)), .int .i64 ((ps.getD i (0, 0)).1)], 24, true, 2⟩ (((ps.take (i + 1)).map Sp.turn4).flatMap ptc) (by kernel_rfl) (by kernel_rfl) (by kernel_rfl) (by kernel_rfl) (by kernel_rfl) (by rw [pairs_length]; simp; omega) (by omega) (by omega) (Sp.snoc_take hil (by simp only [ptc, Sp.turn4, Sp.move2, Int.zero_sub]))) <|
      .a 1 14 <| .nil _ _) ?_
    refine block_normal ?_
    refine then_normal ?_
    refine aw_p1 (
      .p (does_i (((i : Nat) : Int) + 1) (wrap_i64 (by omega) (by omega)) .i64) <| .a 1 14 <| .nil _ _) ?_
    refine then_normal ?_
    refine al_r [(6, 11), (8, 13)] [(7, .slice (some ⟨1, 0, none⟩) ps.length 0), (8, .pointer (some ⟨2, 0, none⟩)), (9, .pointer (some ⟨3, 0, none⟩)), (10, .slice (some ⟨11, 0, none⟩) (i + 1) 0), (11, .slice (some ⟨13, 0, none⟩) (i + 1) 0), (23, .slice (some ⟨1, 0, none⟩) ps.length 0), (24, .int .i64 ((ps.length : Nat) : Int)), (25, .int .i64 (((i + 1) : Nat) : Int))] [(0, ⟨(xs.map i64v), 3, false, 1⟩), (1, ⟨(ps.flatMap ptc), 24, true, 2⟩), (2, ⟨[.int .i64 a, .int .i64 b], 24, true, 2⟩), (3, ⟨[.int .i64 c, .int .i64 d], 24, true, 2⟩), (11, ⟨(((ps.take (i + 1)).map (Sp.move2 (c, d))).flatMap ptc), 24, true, 2⟩), (13, ⟨(((ps.take (i + 1)).map Sp.turn4).flatMap ptc), 24, true, 2⟩)] [(7, .slice (some ⟨1, 0, none⟩) ps.length 0), (8, .pointer (some ⟨2, 0, none⟩)), (9, .pointer (some ⟨3, 0, none⟩)), (10, .slice (some ⟨6, 0, none⟩) (i + 1) 0), (11, .slice (some ⟨8, 0, none⟩) (i + 1) 0), (23, .slice (some ⟨1, 0, none⟩) ps.length 0), (24, .int .i64 ((ps.length : Nat) : Int)), (25, .int .i64 (((i + 1) : Nat) : Int))] [(0, ⟨(xs.map i64v), 3, false, 1⟩), (1, ⟨(ps.flatMap ptc), 24, true, 2⟩), (2, ⟨[.int .i64 a, .int .i64 b], 24, true, 2⟩), (3, ⟨[.int .i64 c, .int .i64 d], 24, true, 2⟩), (6, ⟨(((ps.take (i + 1)).map (Sp.move2 (c, d))).flatMap ptc), 24, true, 2⟩), (8, ⟨(((ps.take (i + 1)).map Sp.turn4).flatMap ptc), 24, true, 2⟩)] ?_ ⟨rfl, (.slice _ _ _ _ _ rfl), rfl, (.ptr _ _ rfl), rfl, (.ptr _ _ rfl), rfl, (.slice _ _ _ _ _ rfl), rfl, (.slice _ _ _ _ _ rfl), rfl, (.slice _ _ _ _ _ rfl), rfl, (.flatB (by kernel_rfl)), rfl, (.flatB (by kernel_rfl)), trivial⟩ ⟨rfl, ⟨rfl, rfl, rfl, (.flats (flats_map (fun _ => rfl) _))⟩, rfl, ⟨rfl, rfl, rfl, (.flats (flats_pair _))⟩, rfl, ⟨rfl, rfl, rfl, (.flats (by kernel_rfl))⟩, rfl, ⟨rfl, rfl, rfl, (.flats (by kernel_rfl))⟩, rfl, ⟨rfl, rfl, rfl, (.flats (flats_pair _))⟩, rfl, ⟨rfl, rfl, rfl, (.flats (flats_pair _))⟩, trivial⟩
    exact ih1 (i + 1) (show (1 ≤ (i + 1) ∧ (i + 1) ≤ ps.length) from by omega) (show ps.length - (i + 1) < ps.length - i from by omega)
  · have h1p : ¬ ((((i : Nat) : Int) < ((ps.length : Nat) : Int))) := by first | (simpa using h1) | (have h1q := h1; simp at h1q; omega) | (have h1q := bx2 h1; simp at h1q; omega)
    have hin : i = ps.length := by omega
    refine aw_ex 0 ?_
    refine then_exit ?_
    refine then_exit ?_
    refine block_exit ?_
    refine then_normal ?_
    refine aw_w [(7, .slice (some ⟨1, 0, none⟩) ps.length 0), (8, .pointer (some ⟨2, 0, none⟩)), (9, .pointer (some ⟨3, 0, none⟩)), (10, .slice (some ⟨6, 0, none⟩) ps.length 0), (11, .slice (some ⟨8, 0, none⟩) ps.length 0), (23, .slice (some ⟨1, 0, none⟩) ps.length 0), (24, .int .i64 ((ps.length : Nat) : Int)), (25, .int .i64 ((ps.length : Nat) : Int)), (26, .bool (decide (((ps.length : Nat) : Int) < ((ps.length : Nat) : Int))))] [(0, ⟨(xs.map i64v), 3, false, 1⟩), (1, ⟨(ps.flatMap ptc), 24, true, 2⟩), (2, ⟨[.int .i64 a, .int .i64 b], 24, true, 2⟩), (3, ⟨[.int .i64 c, .int .i64 d], 24, true, 2⟩), (6, ⟨(((ps.take ps.length).map (Sp.move2 (c, d))).flatMap ptc), 24, true, 2⟩), (8, ⟨(((ps.take ps.length).map Sp.turn4).flatMap ptc), 24, true, 2⟩)] ?_ (by subst hin; kernel_rfl) (by subst hin; kernel_rfl) (hc := (by simp [closedB, valsB, valB, List.all_eq_true, List.mem_flatMap, List.mem_range, List.mem_map, i64v, ptc, Sp.move2, Sp.turn4, flat1]; try (intros; simp [valsB, valB, flat1]); try decide))
    refine aw_p 127 (
      .a 2 9 <|
      .p (does_callB (x := .func 58) (ars := #[.tmp 53, .tmp 54]) (ats := #[37, 24]) (g := 58) (vs := [.slice (some ⟨1, 0, none⟩) ps.length 0, .agg #[.int .i64 a, .int .i64 b]]) (m := 1) (r := 0) (firsts := #[]) (caps := #[]) (args0 := [.slice (some ⟨0, 0, none⟩) ps.length 0, .agg #[.int .i64 a, .int .i64 b]]) (pre0 := [(0, ⟨(ps.flatMap ptc), 24, true, 2⟩)]) (post0 := [(0, ⟨(ps.flatMap ptc), 24, true, 2⟩)]) (pre := [(1, ⟨(ps.flatMap ptc), 24, true, 2⟩)]) (post := [(1, ⟨(ps.flatMap ptc), 24, true, 2⟩)]) (v0 := .int .i64 (Sp.hasF ps (Sp.lim 1048576 a) (Sp.lim 1048576 b) 0 (-1))) (v := .int .i64 (Sp.hasF ps (Sp.lim 1048576 a) (Sp.lim 1048576 b) 0 (-1))) [1] (by kernel_rfl) (by kernel_rfl) (by kernel_rfl) (by kernel_rfl) (hasn_own ps ps.length (rfl) (by first | omega | decide) a b) (.cons (.slice _ _ _ _ _ (by decide)) (.cons (.flatB (by kernel_rfl)) .nil)) ⟨rfl, ⟨rfl, rfl, rfl, (.flats (flats_pair _))⟩, trivial⟩ (by kernel_rfl) (by kernel_rfl) (by kernel_rfl) ⟨rfl, ⟨rfl, rfl, rfl, (.flats (flats_pair _))⟩, trivial⟩ (.flatB (by kernel_rfl))) <|
      .a 1 9 <| .nil _ _) ?_
    refine aw_p 255 (
      .a 5 9 <| .p (does_i (a + c) (wrap_i64 (by omega) (by omega)) .i64) <| .a 4 9 <| .p (does_i (b + d) (wrap_i64 (by omega) (by omega)) .i64) <| .p (does_c (terrkeep1_at_ok (a + c) (b + d))) <|
      .p (does_callB (x := .func 58) (ars := #[.tmp 56, .tmp 67]) (ats := #[37, 24]) (g := 58) (vs := [.slice (some ⟨6, 0, none⟩) ps.length 0, .agg #[.int .i64 (a + c), .int .i64 (b + d)]]) (m := 1) (r := 0) (firsts := #[]) (caps := #[]) (args0 := [.slice (some ⟨0, 0, none⟩) ps.length 0, .agg #[.int .i64 (a + c), .int .i64 (b + d)]]) (pre0 := [(0, ⟨(((ps.take ps.length).map (Sp.move2 (c, d))).flatMap ptc), 24, true, 2⟩)]) (post0 := [(0, ⟨(((ps.take ps.length).map (Sp.move2 (c, d))).flatMap ptc), 24, true, 2⟩)]) (pre := [(6, ⟨(((ps.take ps.length).map (Sp.move2 (c, d))).flatMap ptc), 24, true, 2⟩)]) (post := [(6, ⟨(((ps.take ps.length).map (Sp.move2 (c, d))).flatMap ptc), 24, true, 2⟩)]) (v0 := .int .i64 (Sp.hasF ((ps.take ps.length).map (Sp.move2 (c, d))) (Sp.lim 1048576 (a + c)) (Sp.lim 1048576 (b + d)) 0 (-1))) (v := .int .i64 (Sp.hasF ((ps.take ps.length).map (Sp.move2 (c, d))) (Sp.lim 1048576 (a + c)) (Sp.lim 1048576 (b + d)) 0 (-1))) [6] (by kernel_rfl) (by kernel_rfl) (by kernel_rfl) (by kernel_rfl) (hasn_own ((ps.take ps.length).map (Sp.move2 (c, d))) ps.length (by first | exact by simp | simp) (by first | omega | decide) (a + c) (b + d)) (.cons (.slice _ _ _ _ _ (by decide)) (.cons (.flatB (by kernel_rfl)) .nil)) ⟨rfl, ⟨rfl, rfl, rfl, (.flats (flats_pair _))⟩, trivial⟩ (by kernel_rfl) (by kernel_rfl) (by kernel_rfl) ⟨rfl, ⟨rfl, rfl, rfl, (.flats (flats_pair _))⟩, trivial⟩ (.flatB (by kernel_rfl))) <|
      .a 1 9 <|
      .p (does_b true ((show ((Sp.hasF ((ps.take ps.length).map (Sp.move2 (c, d))) (Sp.lim 1048576 (a + c)) (Sp.lim 1048576 (b + d)) 0 (-1)) == (Sp.hasF ps (Sp.lim 1048576 a) (Sp.lim 1048576 b) 0 (-1))) = true from (by rw [Sp.has_mv (by omega) hf ⟨by omega, by omega⟩ ⟨by omega, by omega⟩ ⟨by omega, by omega⟩ ⟨by omega, by omega⟩]; simp)))) <|
      .a 4 9 <| .p (does_i (0 - b) (wrap_i64 (by omega) (by omega)) .i64) <| .a 2 9 <| .p (does_c (terrkeep1_at_ok (0 - b) a)) <|
      .p (does_callB (x := .func 58) (ars := #[.tmp 72, .tmp 78]) (ats := #[37, 24]) (g := 58) (vs := [.slice (some ⟨8, 0, none⟩) ps.length 0, .agg #[.int .i64 (0 - b), .int .i64 a]]) (m := 1) (r := 0) (firsts := #[]) (caps := #[]) (args0 := [.slice (some ⟨0, 0, none⟩) ps.length 0, .agg #[.int .i64 (0 - b), .int .i64 a]]) (pre0 := [(0, ⟨(((ps.take ps.length).map Sp.turn4).flatMap ptc), 24, true, 2⟩)]) (post0 := [(0, ⟨(((ps.take ps.length).map Sp.turn4).flatMap ptc), 24, true, 2⟩)]) (pre := [(8, ⟨(((ps.take ps.length).map Sp.turn4).flatMap ptc), 24, true, 2⟩)]) (post := [(8, ⟨(((ps.take ps.length).map Sp.turn4).flatMap ptc), 24, true, 2⟩)]) (v0 := .int .i64 (Sp.hasF ((ps.take ps.length).map Sp.turn4) (Sp.lim 1048576 (0 - b)) (Sp.lim 1048576 a) 0 (-1))) (v := .int .i64 (Sp.hasF ((ps.take ps.length).map Sp.turn4) (Sp.lim 1048576 (0 - b)) (Sp.lim 1048576 a) 0 (-1))) [8] (by kernel_rfl) (by kernel_rfl) (by kernel_rfl) (by kernel_rfl) (hasn_own ((ps.take ps.length).map Sp.turn4) ps.length (by first | exact by simp | simp) (by first | omega | decide) (0 - b) a) (.cons (.slice _ _ _ _ _ (by decide)) (.cons (.flatB (by kernel_rfl)) .nil)) ⟨rfl, ⟨rfl, rfl, rfl, (.flats (flats_pair _))⟩, trivial⟩ (by kernel_rfl) (by kernel_rfl) (by kernel_rfl) ⟨rfl, ⟨rfl, rfl, rfl, (.flats (flats_pair _))⟩, trivial⟩ (.flatB (by kernel_rfl))) <|
      .a 1 9 <| .p (does_b true ((show ((Sp.hasF ((ps.take ps.length).map Sp.turn4) (Sp.lim 1048576 (0 - b)) (Sp.lim 1048576 a) 0 (-1)) == (Sp.hasF ps (Sp.lim 1048576 a) (Sp.lim 1048576 b) 0 (-1))) = true from (by rw [Sp.has_tn (by omega) hf ⟨by omega, by omega⟩ ⟨by omega, by omega⟩]; simp)))) <| .a 4 9 <|
      .p (does_indexSlice (t := 37) (x := .tmp 85) (y := .const (.int .i64 0)) (k := 1) (off := 0) (n := ps.length) (c := 0) (z := 2) (kd := .i64) (j := 0) (by kernel_rfl) (by kernel_rfl) (by kernel_rfl) (by kernel_rfl) (by kernel_rfl) (by omega) (by omega)) <|
      .p (does_load (t := 24) (x := .tmp 86) (k := 1) (off := 0) (b := ⟨(ps.flatMap ptc), 24, true, 2⟩) (v := .agg #[.int .i64 ((ps.getD 0 (0, 0)).1), .int .i64 ((ps.getD 0 (0, 0)).2)]) (by kernel_rfl) (by kernel_rfl) (by kernel_rfl) (ldV_pair (j := 0) (by kernel_rfl) (by kernel_rfl) (by omega) (by omega))) <|
      .p (does_callB (x := .func 58) (ars := #[.tmp 84, .tmp 87]) (ats := #[37, 24]) (g := 58) (vs := [.slice (some ⟨1, 0, none⟩) ps.length 0, .agg #[.int .i64 ((ps.getD 0 (0, 0)).1), .int .i64 ((ps.getD 0 (0, 0)).2)]]) (m := 1) (r := 0) (firsts := #[]) (caps := #[]) (args0 := [.slice (some ⟨0, 0, none⟩) ps.length 0, .agg #[.int .i64 ((ps.getD 0 (0, 0)).1), .int .i64 ((ps.getD 0 (0, 0)).2)]]) (pre0 := [(0, ⟨(ps.flatMap ptc), 24, true, 2⟩)]) (post0 := [(0, ⟨(ps.flatMap ptc), 24, true, 2⟩)]) (pre := [(1, ⟨(ps.flatMap ptc), 24, true, 2⟩)]) (post := [(1, ⟨(ps.flatMap ptc), 24, true, 2⟩)]) (v0 := .int .i64 (Sp.hasF ps (Sp.lim 1048576 ((ps.getD 0 (0, 0)).1)) (Sp.lim 1048576 ((ps.getD 0 (0, 0)).2)) 0 (-1))) (v := .int .i64 (Sp.hasF ps (Sp.lim 1048576 ((ps.getD 0 (0, 0)).1)) (Sp.lim 1048576 ((ps.getD 0 (0, 0)).2)) 0 (-1))) [1] (by kernel_rfl) (by kernel_rfl) (by kernel_rfl) (by kernel_rfl) (hasn_own ps ps.length (rfl) (by first | omega | decide) ((ps.getD 0 (0, 0)).1) ((ps.getD 0 (0, 0)).2)) (.cons (.slice _ _ _ _ _ (by decide)) (.cons (.flatB (by kernel_rfl)) .nil)) ⟨rfl, ⟨rfl, rfl, rfl, (.flats (flats_pair _))⟩, trivial⟩ (by kernel_rfl) (by kernel_rfl) (by kernel_rfl) ⟨rfl, ⟨rfl, rfl, rfl, (.flats (flats_pair _))⟩, trivial⟩ (.flatB (by kernel_rfl))) <|
      .p (does_b true ((show ((Sp.hasF ps (Sp.lim 1048576 ((ps.getD 0 (0, 0)).1)) (Sp.lim 1048576 ((ps.getD 0 (0, 0)).2)) 0 (-1)) == 0) = true from (by rw [Sp.has_first (by omega)]; simp)))) <| .a 3 9 <|
      .p (does_callB (x := .func 56) (ars := #[.tmp 92]) (ats := #[37]) (g := 56) (vs := [.slice (some ⟨8, 0, none⟩) ps.length 0]) (m := 1) (r := 0) (firsts := #[]) (caps := #[]) (args0 := [.slice (some ⟨0, 0, none⟩) ps.length 0]) (pre0 := [(0, ⟨(((ps.take ps.length).map Sp.turn4).flatMap ptc), 24, true, 2⟩)]) (post0 := [(0, ⟨(((ps.take ps.length).map Sp.turn4).flatMap ptc), 24, true, 2⟩)]) (pre := [(8, ⟨(((ps.take ps.length).map Sp.turn4).flatMap ptc), 24, true, 2⟩)]) (post := [(8, ⟨(((ps.take ps.length).map Sp.turn4).flatMap ptc), 24, true, 2⟩)]) (v0 := .int .i64 (Sp.twF ((ps.take ps.length).map Sp.turn4) 1 0)) (v := .int .i64 (Sp.twF ((ps.take ps.length).map Sp.turn4) 1 0)) [8] (by kernel_rfl) (by kernel_rfl) (by kernel_rfl) (by kernel_rfl) (twicen_own ((ps.take ps.length).map Sp.turn4) ps.length (by first | exact by simp | simp) (by first | omega | decide)) (.cons (.slice _ _ _ _ _ (by decide)) .nil) ⟨rfl, ⟨rfl, rfl, rfl, (.flats (flats_pair _))⟩, trivial⟩ (by kernel_rfl) (by kernel_rfl) (by kernel_rfl) ⟨rfl, ⟨rfl, rfl, rfl, (.flats (flats_pair _))⟩, trivial⟩ (.flatB (by kernel_rfl))) <|
      .a 1 9 <|
      .p (does_callB (x := .func 56) (ars := #[.tmp 94]) (ats := #[37]) (g := 56) (vs := [.slice (some ⟨1, 0, none⟩) ps.length 0]) (m := 1) (r := 0) (firsts := #[]) (caps := #[]) (args0 := [.slice (some ⟨0, 0, none⟩) ps.length 0]) (pre0 := [(0, ⟨(ps.flatMap ptc), 24, true, 2⟩)]) (post0 := [(0, ⟨(ps.flatMap ptc), 24, true, 2⟩)]) (pre := [(1, ⟨(ps.flatMap ptc), 24, true, 2⟩)]) (post := [(1, ⟨(ps.flatMap ptc), 24, true, 2⟩)]) (v0 := .int .i64 (Sp.twF ps 1 0)) (v := .int .i64 (Sp.twF ps 1 0)) [1] (by kernel_rfl) (by kernel_rfl) (by kernel_rfl) (by kernel_rfl) (twicen_own ps ps.length (rfl) (by first | omega | decide)) (.cons (.slice _ _ _ _ _ (by decide)) .nil) ⟨rfl, ⟨rfl, rfl, rfl, (.flats (flats_pair _))⟩, trivial⟩ (by kernel_rfl) (by kernel_rfl) (by kernel_rfl) ⟨rfl, ⟨rfl, rfl, rfl, (.flats (flats_pair _))⟩, trivial⟩ (.flatB (by kernel_rfl))) <|
      .p (does_b true ((show ((Sp.twF ((ps.take ps.length).map Sp.turn4) 1 0) == (Sp.twF ps 1 0)) = true from (by rw [Sp.tw_tn (by omega) hf]; simp)))) <| .a 2 9 <| .nil _ _) ?_
    refine aw_rt ?_
    exact en_ret [.bool true] (by kernel_rfl)


end Go.Proofs.Ytigllakcfdoagaa.Am
