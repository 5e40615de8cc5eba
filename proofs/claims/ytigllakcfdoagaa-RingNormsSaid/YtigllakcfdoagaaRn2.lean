/-
  The walks of rows put together, of equal rows.
-/
import Derived.Test.YtigllakcfdoagaaProg
import Derived.Test.YtigllakcfdoagaaAm16
import Derived.Test.YtigllakcfdoagaaRn
namespace Go.Proofs.Ytigllakcfdoagaa.Am
open Go Go.Proofs
set_option maxRecDepth 100000
set_option maxHeartbeats 4000000
set_option linter.unusedVariables false
set_option linter.unusedSimpArgs false

theorem concat_ok (ps : List (Int × Int)) (m : Nat) (hm : m < ps.length) (hz : ps.length ≤ 4096) :
    AC Try.prog 67 2 ([.slice (some ⟨1, 0, none⟩) 2 0]) [(0, ⟨(ps.flatMap ptc), 24, true, 2⟩), (1, ⟨[.slice (some ⟨0, (0 + m * 2), none⟩) (ps.length - m) 0, .slice (some ⟨0, 0, none⟩) m 0], 37, true, 1⟩)] (.slice (some ⟨2, 0, none⟩) ps.length 0) [(0, ⟨(ps.flatMap ptc), 24, true, 2⟩), (1, ⟨[.slice (some ⟨0, (0 + m * 2), none⟩) (ps.length - m) 0, .slice (some ⟨0, 0, none⟩) m 0], 37, true, 1⟩), (2, ⟨((Sp.rotL ps m).flatMap ptc), 24, true, 2⟩)] := by
  refine ac_in Try.func67 (fun w0 W pin => ?_)
  refine aw_p 3 (
    .a 1 3 <| .nil _ _) ?_
  refine aw_p 7 (
    .a 1 3 <| .nil _ _) ?_
  refine aw_sq 14 15 ?_
  refine aw_p 29 (
    .a 3 3 <| .nil _ _) ?_
  refine aw_bl 0 59 ?_
  refine aw_lp 119 ?_
  refine al_round ?_
  refine aw_p 239 (
    .a 1 3 <| .nil _ _) ?_
  refine aw_sq 478 479 ?_
  refine aw_tr 956 ?_
  refine aw_sk ?_
  refine then_normal ?_
  refine aw_sq 958 959 ?_
  refine aw_bl 1 1917 ?_
  refine aw_p 3835 (
    .a 3 3 <| .nil _ _) ?_
  refine aw_p 7671 (
    .a 3 3 <| .p (does_i (0 + (((ps.length - m) : Nat) : Int)) (wrap_i64 (by omega) (by omega)) .i64) <| .a 1 3 <| .nil _ _) ?_
  refine aw_p 15343 (
    .a 1 3 <| .p (does_b false ((show (decide ((0 + (((ps.length - m) : Nat) : Int)) < 0)) = false from decide_eq_false (by omega)))) <| .nil _ _) ?_
  refine aw_fl 30687 ?_
  refine aw_sk ?_
  refine block_normal ?_
  refine then_normal ?_
  refine aw_p1 (
    .a 2 3 <| .nil _ _) ?_
  refine then_normal ?_
  refine al_round ?_
  refine aw_p 239 (
    .a 1 3 <| .nil _ _) ?_
  refine aw_sq 478 479 ?_
  refine aw_tr 956 ?_
  refine aw_sk ?_
  refine then_normal ?_
  refine aw_sq 958 959 ?_
  refine aw_bl 1 1917 ?_
  refine aw_p 3835 (
    .a 3 3 <| .nil _ _) ?_
  refine aw_p 7671 (
    .a 3 3 <| .p (does_i ((0 + (((ps.length - m) : Nat) : Int)) + ((m : Nat) : Int)) (wrap_i64 (by omega) (by omega)) .i64) <| .a 1 3 <| .nil _ _) ?_
  refine aw_p 15343 (
    .a 1 3 <| .p (does_b false ((show (decide (((0 + (((ps.length - m) : Nat) : Int)) + ((m : Nat) : Int)) < 0)) = false from decide_eq_false (by omega)))) <| .nil _ _) ?_
  refine aw_fl 30687 ?_
  refine aw_sk ?_
  refine block_normal ?_
  refine then_normal ?_
  refine aw_p1 (
    .a 2 3 <| .nil _ _) ?_
  refine then_normal ?_
  refine al_round ?_
  refine aw_p 239 (
    .a 1 3 <| .nil _ _) ?_
  refine aw_sq 478 479 ?_
  refine aw_fl 957 ?_
  refine aw_ex 0 ?_
  refine then_exit ?_
  refine then_exit ?_
  refine block_exit ?_
  refine then_normal ?_
  refine aw_p 31 (
    .a 1 3 <|
    .p (does_callB (x := .func 128) (ars := #[.const (.slice none 0 0), .tmp 23]) (ats := #[37, 3]) (g := 128) (vs := [.slice none 0 0, .int .i64 ((0 + (((ps.length - m) : Nat) : Int)) + ((m : Nat) : Int))]) (m := 0) (r := 1) (firsts := #[]) (caps := #[]) (args0 := [.slice none 0 0, .int .i64 ((0 + (((ps.length - m) : Nat) : Int)) + ((m : Nat) : Int))]) (pre0 := []) (post0 := [(0, ⟨[], 24, true, 2⟩)]) (pre := []) (post := [(3, ⟨[], 24, true, 2⟩)]) (v0 := .slice (some ⟨0, 0, none⟩) 0 0) (v := .slice (some ⟨3, 0, none⟩) 0 0) [3] (by kernel_rfl) (by kernel_rfl) (by kernel_rfl) (by kernel_rfl) (grow_ok ps.length ((0 + (((ps.length - m) : Nat) : Int)) + ((m : Nat) : Int)) (by omega) (by omega) (by omega)) (.flats (by kernel_rfl)) trivial (by kernel_rfl) (by kernel_rfl) (by kernel_rfl) ⟨rfl, ⟨rfl, rfl, rfl, (.flats (by kernel_rfl))⟩, trivial⟩ (.slice _ _ _ _ _ (by decide))) <|
    .a 1 4 <| .nil _ _) ?_
  refine aw_sq 62 63 ?_
  refine aw_p 125 (
    .a 3 4 <| .nil _ _) ?_
  refine aw_bl 2 251 ?_
  refine aw_lp 503 ?_
  refine al_round ?_
  refine aw_p 1007 (
    .a 1 4 <| .nil _ _) ?_
  refine aw_sq 2014 2015 ?_
  refine aw_tr 4028 ?_
  refine aw_sk ?_
  refine then_normal ?_
  refine aw_sq 4030 4031 ?_
  refine aw_bl 3 8061 ?_
  refine aw_p 16123 (
    .a 3 4 <| .nil _ _) ?_
  refine aw_p1 (
    .a 2 4 <|
    .p (does_apg (ps.length - m) 4 24 2 16 3 0 0 (0 + m * 2) (ps.length - m) ⟨[], 24, true, 2⟩ ⟨(ps.flatMap ptc), 24, true, 2⟩ ((ps.drop m).flatMap ptc) (by kernel_rfl) (by kernel_rfl) (by kernel_rfl) (by kernel_rfl) (by kernel_rfl) (plain_pairs _) (by rw [Nat.zero_mul]; exact Nat.zero_le _) (by show _ ≤ (ps.flatMap ptc).length; rw [pairs_length]; omega) (.inl (by omega)) (by omega) (by omega) (by show List.take _ [] ++ ((ps.flatMap ptc).drop _).take _ = _; rw [cut_pairs (j := m) (k := ps.length - m) (by omega) (by omega), List.take_nil, List.nil_append, List.take_of_length_le (by simp)]) (by omega)) <|
    .a 1 5 <| .nil _ _) ?_
  refine block_normal ?_
  refine then_normal ?_
  refine aw_p1 (
    .a 2 5 <| .nil _ _) ?_
  refine then_normal ?_
  refine al_round ?_
  refine aw_p 1007 (
    .a 1 5 <| .nil _ _) ?_
  refine aw_sq 2014 2015 ?_
  refine aw_tr 4028 ?_
  refine aw_sk ?_
  refine then_normal ?_
  refine aw_sq 4030 4031 ?_
  refine aw_bl 3 8061 ?_
  refine aw_p 16123 (
    .a 3 5 <| .nil _ _) ?_
  refine aw_p1 (
    .a 2 5 <|
    .p (does_apg ps.length 2 24 2 16 4 (ps.length - m) 0 0 m ⟨((ps.drop m).flatMap ptc), 24, true, 2⟩ ⟨(ps.flatMap ptc), 24, true, 2⟩ ((Sp.rotL ps m).flatMap ptc) (by kernel_rfl) (by kernel_rfl) (by kernel_rfl) (by kernel_rfl) (by kernel_rfl) (plain_pairs _) (by show _ ≤ ((ps.drop m).flatMap ptc).length; rw [pairs_length, List.length_drop]; omega) (by show _ ≤ (ps.flatMap ptc).length; rw [pairs_length]; omega) (.inr ⟨by omega, by show ((ps.drop m).flatMap ptc).length = _; rw [pairs_length, List.length_drop]; omega⟩) (by omega) (by omega) (by show ((ps.drop m).flatMap ptc).take _ ++ ((ps.flatMap ptc).drop _).take _ = _; rw [cut_pairs (j := 0) (k := m) (by omega) (by omega), List.drop_zero, List.take_of_length_le (by rw [pairs_length, List.length_drop]; omega), ← List.flatMap_append]; rfl) (by omega)) <|
    .a 1 5 <| .nil _ _) ?_
  refine block_normal ?_
  refine then_normal ?_
  refine aw_p1 (
    .a 2 5 <| .nil _ _) ?_
  refine then_normal ?_
  refine al_round ?_
  refine aw_p 1007 (
    .a 1 5 <| .nil _ _) ?_
  refine aw_sq 2014 2015 ?_
  refine aw_fl 4029 ?_
  refine aw_ex 2 ?_
  refine then_exit ?_
  refine then_exit ?_
  refine block_exit ?_
  refine then_normal ?_
  refine aw_p 127 (
    .a 2 5 <| .nil _ _) ?_
  refine aw_rt ?_
  exact en_ret [.slice (some ⟨2, 0, none⟩) ps.length 0] (by kernel_rfl)

theorem equal_ok (ps : List (Int × Int)) (hz : ps.length ≤ 4096) :
    AC Try.prog 60 2 ([.slice (some ⟨0, 0, none⟩) ps.length 0, .slice (some ⟨1, 0, none⟩) ps.length 0]) [(0, ⟨(ps.flatMap ptc), 24, true, 2⟩), (1, ⟨(ps.flatMap ptc), 24, true, 2⟩)] (.bool true) [(0, ⟨(ps.flatMap ptc), 24, true, 2⟩), (1, ⟨(ps.flatMap ptc), 24, true, 2⟩)] := by
  refine ac_in Try.func60 (fun w0 W pin => ?_)
  refine aw_p 3 (
    .a 1 2 <| .nil _ _) ?_
  refine aw_sq 6 7 ?_
  refine aw_p 13 (
    .a 4 2 <| .p (does_b false ((show (((ps.length : Nat) : Int) != ((ps.length : Nat) : Int)) = false from by simp))) <| .nil _ _) ?_
  refine aw_fl 27 ?_
  refine aw_sk ?_
  refine then_normal ?_
  refine aw_sq 14 15 ?_
  refine aw_p 29 (
    .a 3 2 <| .nil _ _) ?_
  refine aw_bl 0 59 ?_
  refine aw_lp 119 ?_
  refine al_w [(0, .slice (some ⟨0, 0, none⟩) ps.length 0), (1, .slice (some ⟨1, 0, none⟩) ps.length 0), (11, .slice (some ⟨0, 0, none⟩) ps.length 0), (12, .int .i64 ((ps.length : Nat) : Int)), (13, .int .i64 ((0 : Nat) : Int))] [(0, ⟨(ps.flatMap ptc), 24, true, 2⟩), (1, ⟨(ps.flatMap ptc), 24, true, 2⟩)] ?_ (hc := (by simp [closedB, valsB, valB, List.all_eq_true, List.mem_flatMap, List.mem_range, List.mem_map, i64v, ptc, flat1]; try (intros; simp [valsB, valB, flat1]); try decide))
  refine al_ind (fun i : Nat => (fun (i : Nat) => mkSt 2 [(0, .slice (some ⟨0, 0, none⟩) ps.length 0), (1, .slice (some ⟨1, 0, none⟩) ps.length 0), (11, .slice (some ⟨0, 0, none⟩) ps.length 0), (12, .int .i64 ((ps.length : Nat) : Int)), (13, .int .i64 ((i : Nat) : Int))] [(0, ⟨(ps.flatMap ptc), 24, true, 2⟩), (1, ⟨(ps.flatMap ptc), 24, true, 2⟩)]) i) (fun i : Nat => (fun (i : Nat) => (i ≤ ps.length)) i) (fun i : Nat => (fun (i : Nat) => ps.length - i) i) (fun i hi1 ih1 => ?_) 0 (show (0 ≤ ps.length) from by omega)
  obtain ⟨i, hv1⟩ : ∃ z, z = i := ⟨i, rfl⟩; subst hv1
  have hi1' : (i ≤ ps.length) := hi1
  have hi : i ≤ ps.length := hi1'
  show AL _ _ _ (mkSt 2 [(0, .slice (some ⟨0, 0, none⟩) ps.length 0), (1, .slice (some ⟨1, 0, none⟩) ps.length 0), (11, .slice (some ⟨0, 0, none⟩) ps.length 0), (12, .int .i64 ((ps.length : Nat) : Int)), (13, .int .i64 ((i : Nat) : Int))] [(0, ⟨(ps.flatMap ptc), 24, true, 2⟩), (1, ⟨(ps.flatMap ptc), 24, true, 2⟩)]) _
  refine al_round ?_
  refine aw_p 239 (
    .a 1 2 <| .nil _ _) ?_
  refine aw_sq 478 479 ?_
  refine aw_cd 956 957 (decide (((i : Nat) : Int) < ((ps.length : Nat) : Int))) (fun h1 => ?_) (fun h1 => ?_)
  · have h1p : ((((i : Nat) : Int) < ((ps.length : Nat) : Int))) := by first | (simpa using h1) | (have h1q := h1; simp at h1q; omega) | (have h1q := bx1 h1; simp at h1q; omega)
    refine aw_sk ?_
    refine then_normal ?_
    refine aw_sq 958 959 ?_
    refine aw_bl 1 1917 ?_
    refine aw_p 3835 (
      .a 2 2 <| .nil _ _) ?_
    refine aw_d 7671 (
      .a 2 2 <| .p (does_indexSlice (t := 37) (x := .tmp 16) (y := .tmp 17) (k := 0) (off := 0) (n := ps.length) (c := 0) (z := 2) (kd := .i64) (j := ((i : Nat) : Int)) (by kernel_rfl) (by kernel_rfl) (by kernel_rfl) (by kernel_rfl) (by kernel_rfl) (by omega) (by omega)) <|
      .p (does_load (t := 24) (x := .tmp 18) (k := 0) (off := (0 + (((i : Nat) : Int)).toNat * 2)) (b := ⟨(ps.flatMap ptc), 24, true, 2⟩) (v := .agg #[.int .i64 ((ps.getD i (0, 0)).1), .int .i64 ((ps.getD i (0, 0)).2)]) (by kernel_rfl) (by kernel_rfl) (by kernel_rfl) (ldV_pair (j := i) (by kernel_rfl) (by kernel_rfl) (by omega) (by omega))) <|
      .a 2 2 <| .p (does_indexSlice (t := 37) (x := .tmp 20) (y := .tmp 21) (k := 1) (off := 0) (n := ps.length) (c := 0) (z := 2) (kd := .i64) (j := ((i : Nat) : Int)) (by kernel_rfl) (by kernel_rfl) (by kernel_rfl) (by kernel_rfl) (by kernel_rfl) (by omega) (by omega)) <|
      .p (does_load (t := 24) (x := .tmp 22) (k := 1) (off := (0 + (((i : Nat) : Int)).toNat * 2)) (b := ⟨(ps.flatMap ptc), 24, true, 2⟩) (v := .agg #[.int .i64 ((ps.getD i (0, 0)).1), .int .i64 ((ps.getD i (0, 0)).2)]) (by kernel_rfl) (by kernel_rfl) (by kernel_rfl) (ldV_pair (j := i) (by kernel_rfl) (by kernel_rfl) (by omega) (by omega))) <|
      .p (does_e false ((show (!((((ps.getD i (0, 0)).1) == ((ps.getD i (0, 0)).1)) && ((((ps.getD i (0, 0)).2) == ((ps.getD i (0, 0)).2)) && true))) = false from by simp))) <| .nil _ _) ?_
    refine aw_fl 15343 ?_
    refine aw_sk ?_
    refine block_normal ?_
    refine then_normal ?_
    refine aw_p1 (
      .p (does_i (((i : Nat) : Int) + 1) (wrap_i64 (by omega) (by omega)) .i64) <| .a 1 2 <| .nil _ _) ?_
    refine then_normal ?_
    refine al_w [(0, .slice (some ⟨0, 0, none⟩) ps.length 0), (1, .slice (some ⟨1, 0, none⟩) ps.length 0), (11, .slice (some ⟨0, 0, none⟩) ps.length 0), (12, .int .i64 ((ps.length : Nat) : Int)), (13, .int .i64 (((i + 1) : Nat) : Int))] [(0, ⟨(ps.flatMap ptc), 24, true, 2⟩), (1, ⟨(ps.flatMap ptc), 24, true, 2⟩)] ?_ (hc := (by simp [closedB, valsB, valB, List.all_eq_true, List.mem_flatMap, List.mem_range, List.mem_map, i64v, ptc, flat1]; try (intros; simp [valsB, valB, flat1]); try decide))
    exact ih1 (i + 1) (show ((i + 1) ≤ ps.length) from by omega) (show ps.length - (i + 1) < ps.length - i from by omega)
  · have h1p : ¬ ((((i : Nat) : Int) < ((ps.length : Nat) : Int))) := by first | (simpa using h1) | (have h1q := h1; simp at h1q; omega) | (have h1q := bx2 h1; simp at h1q; omega)
    refine aw_ex 0 ?_
    refine then_exit ?_
    refine then_exit ?_
    refine block_exit ?_
    refine then_normal ?_
    refine aw_p 31 (
      .a 1 2 <| .nil _ _) ?_
    refine aw_rt ?_
    exact en_ret [.bool true] (by kernel_rfl)

theorem concat_n (ps : List (Int × Int)) (N m : Nat) (hN : ps.length = N) (hm : m < N) (hz : N ≤ 4096) : AC Try.prog 67 2 [.slice (some ⟨1, 0, none⟩) 2 0] [(0, ⟨(ps.flatMap ptc), 24, true, 2⟩), (1, ⟨[.slice (some ⟨0, (0 + m * 2), none⟩) (N - m) 0, .slice (some ⟨0, 0, none⟩) m 0], 37, true, 1⟩)] (.slice (some ⟨2, 0, none⟩) N 0) [(0, ⟨(ps.flatMap ptc), 24, true, 2⟩), (1, ⟨[.slice (some ⟨0, (0 + m * 2), none⟩) (N - m) 0, .slice (some ⟨0, 0, none⟩) m 0], 37, true, 1⟩), (2, ⟨((Sp.rotL ps m).flatMap ptc), 24, true, 2⟩)] := by
  subst hN
  exact concat_ok ps m hm hz
theorem equal_n (ps qs : List (Int × Int)) (N : Nat) (h : ps = qs) (hN : ps.length = N) (hz : N ≤ 4096) : AC Try.prog 60 2 [.slice (some ⟨0, 0, none⟩) N 0, .slice (some ⟨1, 0, none⟩) N 0] [(0, ⟨(ps.flatMap ptc), 24, true, 2⟩), (1, ⟨(qs.flatMap ptc), 24, true, 2⟩)] (.bool true) [(0, ⟨(ps.flatMap ptc), 24, true, 2⟩), (1, ⟨(qs.flatMap ptc), 24, true, 2⟩)] := by
  subst h
  subst hN
  exact equal_ok ps hz

end Go.Proofs.Ytigllakcfdoagaa.Am
