/-
  Rows of a known length; what is behind a point.
-/
import Derived.Test.YtigllakcfdoagaaProg
import Derived.Test.YtigllakcfdoagaaAm16
import Derived.Test.YtigllakcfdoagaaRn3
import Derived.Test.YtigllakcfdoagaaRs4
namespace Go.Proofs.Ytigllakcfdoagaa.Am
open Go Go.Proofs
set_option maxRecDepth 100000
set_option maxHeartbeats 4000000
set_option linter.unusedVariables false
set_option linter.unusedSimpArgs false

theorem lcl_ok (qs : List (Int × Int)) (N : Nat) (hQ : qs.length = N) (hn : 1 ≤ N) (hz : N ≤ 4096) (x y : Int) :
    AC Try.prog 70 2 ([.agg #[.int .i64 x, .int .i64 y], .pointer (some ⟨1, 0, none⟩)]) [(0, ⟨(qs.flatMap ptc), 24, true, 2⟩), (1, ⟨[.slice (some ⟨0, 0, none⟩) N 0], 37, true, 1⟩)] (.bool (Sp.aftP (qs.getD 0 (0, 0)) (x, y))) [(0, ⟨(qs.flatMap ptc), 24, true, 2⟩), (1, ⟨[.slice (some ⟨0, 0, none⟩) N 0], 37, true, 1⟩)] := by
  refine ac_in Try.func70 (fun w0 W pin => ?_)
  refine aw_p 3 (
    .a 2 2 <| .nil _ _) ?_
  refine aw_d 7 (
    .a 2 3 <| .p (does_b false ((show (((N : Nat) : Int) == 0) = false from by rw [beq_eq_false_iff_ne]; omega))) <| .a 2 3 <|
    .p (does_indexSlice (t := 37) (x := .tmp 8) (y := .const (.int .i64 0)) (k := 0) (off := 0) (n := N) (c := 0) (z := 2) (kd := .i64) (j := 0) (by kernel_rfl) (by kernel_rfl) (by kernel_rfl) (by kernel_rfl) (by kernel_rfl) (by omega) (by omega)) <|
    .p (does_load (t := 24) (x := .tmp 9) (k := 0) (off := 0) (b := ⟨(qs.flatMap ptc), 24, true, 2⟩) (v := .agg #[.int .i64 ((qs.getD 0 (0, 0)).1), .int .i64 ((qs.getD 0 (0, 0)).2)]) (by kernel_rfl) (by kernel_rfl) (by kernel_rfl) (ldV_pair (j := 0) (by kernel_rfl) (by kernel_rfl) (by omega) (by omega))) <|
    .a 1 3 <| .p (does_c (pcmp_ok ((qs.getD 0 (0, 0)).1) ((qs.getD 0 (0, 0)).2) x y)) <| .a 3 3 <| .nil _ _) ?_
  refine aw_rt ?_
  exact en_ret [.bool (decide ((Sp.pcmp ((qs.getD 0 (0, 0)).1) ((qs.getD 0 (0, 0)).2) x y) > 0))] (show (.bool (decide ((Sp.pcmp ((qs.getD 0 (0, 0)).1) ((qs.getD 0 (0, 0)).2) x y) > 0)) : Value) = (.bool (Sp.aftP (qs.getD 0 (0, 0)) (x, y))) from (congrArg Value.bool (show (decide ((Sp.pcmp ((qs.getD 0 (0, 0)).1) ((qs.getD 0 (0, 0)).2) x y) > 0)) = (Sp.aftP (qs.getD 0 (0, 0)) (x, y)) from by rfl)))

theorem lix_ok (ps qs : List (Int × Int)) (N : Nat) (hP : ps.length = N) (hQ : qs.length = N) (hn : 1 ≤ N) (hz : N ≤ 4096) :
    AC Try.prog 130 3 ([.slice (some ⟨0, 0, none⟩) N 0, .func (.func 70) #[] #[.pointer (some ⟨2, 0, none⟩)]]) [(0, ⟨(ps.flatMap ptc), 24, true, 2⟩), (1, ⟨(qs.flatMap ptc), 24, true, 2⟩), (2, ⟨[.slice (some ⟨1, 0, none⟩) N 0], 37, true, 1⟩)] (.int .i64 (Sp.ixF (Sp.aftP (qs.getD 0 (0, 0))) ps 0)) [(0, ⟨(ps.flatMap ptc), 24, true, 2⟩), (1, ⟨(qs.flatMap ptc), 24, true, 2⟩), (2, ⟨[.slice (some ⟨1, 0, none⟩) N 0], 37, true, 1⟩)] := by
  refine ac_in Try.func130 (fun w0 W pin => ?_)
  refine aw_p 3 (
    .a 1 3 <| .nil _ _) ?_
  refine aw_sq 6 7 ?_
  refine aw_p 13 (
    .a 3 3 <| .nil _ _) ?_
  refine aw_bl 0 27 ?_
  refine aw_lp 55 ?_
  refine al_w [(0, .slice (some ⟨0, 0, none⟩) N 0), (1, .func (.func 70) #[] #[.pointer (some ⟨2, 0, none⟩)]), (6, .slice (some ⟨0, 0, none⟩) N 0), (7, .int .i64 ((N : Nat) : Int)), (8, .int .i64 ((0 : Nat) : Int))] [(0, ⟨(ps.flatMap ptc), 24, true, 2⟩), (1, ⟨(qs.flatMap ptc), 24, true, 2⟩), (2, ⟨[.slice (some ⟨1, 0, none⟩) N 0], 37, true, 1⟩)] ?_ (hc := (by simp [closedB, valsB, valB, List.all_eq_true, List.mem_flatMap, List.mem_range, List.mem_map, i64v, ptc, flat1]; try (intros; simp [valsB, valB, flat1]); try decide))
  refine al_ind (fun i : Nat => (fun (u : Nat) => mkSt 3 [(0, .slice (some ⟨0, 0, none⟩) N 0), (1, .func (.func 70) #[] #[.pointer (some ⟨2, 0, none⟩)]), (6, .slice (some ⟨0, 0, none⟩) N 0), (7, .int .i64 ((N : Nat) : Int)), (8, .int .i64 ((u : Nat) : Int))] [(0, ⟨(ps.flatMap ptc), 24, true, 2⟩), (1, ⟨(qs.flatMap ptc), 24, true, 2⟩), (2, ⟨[.slice (some ⟨1, 0, none⟩) N 0], 37, true, 1⟩)]) i) (fun i : Nat => (fun (u : Nat) => (u ≤ N) ∧ (Sp.ixF (Sp.aftP (qs.getD 0 (0, 0))) ps u = Sp.ixF (Sp.aftP (qs.getD 0 (0, 0))) ps 0)) i) (fun i : Nat => (fun (u : Nat) => N - u) i) (fun i hi1 ih1 => ?_) 0 (show (0 ≤ N) ∧ (Sp.ixF (Sp.aftP (qs.getD 0 (0, 0))) ps 0 = Sp.ixF (Sp.aftP (qs.getD 0 (0, 0))) ps 0) from ⟨by omega, by rfl⟩)
  obtain ⟨u, hv1⟩ : ∃ z, z = i := ⟨i, rfl⟩; subst hv1
  have hi1' : (u ≤ N) ∧ (Sp.ixF (Sp.aftP (qs.getD 0 (0, 0))) ps u = Sp.ixF (Sp.aftP (qs.getD 0 (0, 0))) ps 0) := hi1
  obtain ⟨hu, hh⟩ := hi1'
  show AL _ _ _ (mkSt 3 [(0, .slice (some ⟨0, 0, none⟩) N 0), (1, .func (.func 70) #[] #[.pointer (some ⟨2, 0, none⟩)]), (6, .slice (some ⟨0, 0, none⟩) N 0), (7, .int .i64 ((N : Nat) : Int)), (8, .int .i64 ((u : Nat) : Int))] [(0, ⟨(ps.flatMap ptc), 24, true, 2⟩), (1, ⟨(qs.flatMap ptc), 24, true, 2⟩), (2, ⟨[.slice (some ⟨1, 0, none⟩) N 0], 37, true, 1⟩)]) _
  refine al_round ?_
  refine aw_p 111 (
    .a 1 3 <| .nil _ _) ?_
  refine aw_sq 222 223 ?_
  refine aw_cd 444 445 (decide (((u : Nat) : Int) < ((N : Nat) : Int))) (fun h1 => ?_) (fun h1 => ?_)
  · have h1p : ((((u : Nat) : Int) < ((N : Nat) : Int))) := by first | (simpa using h1) | (have h1q := h1; simp at h1q; omega) | (have h1q := bx1 h1; simp at h1q; omega)
    have hil : u < ps.length := by omega
    refine aw_sk ?_
    refine then_normal ?_
    refine aw_sq 446 447 ?_
    refine aw_bl 1 893 ?_
    refine aw_p 1787 (
      .a 2 3 <| .nil _ _) ?_
    refine aw_p 3575 (
      .a 3 3 <| .p (does_indexSlice (t := 37) (x := .tmp 12) (y := .tmp 13) (k := 0) (off := 0) (n := N) (c := 0) (z := 2) (kd := .i64) (j := ((u : Nat) : Int)) (by kernel_rfl) (by kernel_rfl) (by kernel_rfl) (by kernel_rfl) (by kernel_rfl) (by omega) (by omega)) <|
      .p (does_load (t := 24) (x := .tmp 14) (k := 0) (off := (0 + (((u : Nat) : Int)).toNat * 2)) (b := ⟨(ps.flatMap ptc), 24, true, 2⟩) (v := .agg #[.int .i64 ((ps.getD u (0, 0)).1), .int .i64 ((ps.getD u (0, 0)).2)]) (by kernel_rfl) (by kernel_rfl) (by kernel_rfl) (ldV_pair (j := u) (by kernel_rfl) (by kernel_rfl) (by omega) (by omega))) <|
      .p (does_callB (x := .tmp 11) (ars := #[.tmp 15]) (ats := #[24]) (g := 70) (vs := [.agg #[.int .i64 ((ps.getD u (0, 0)).1), .int .i64 ((ps.getD u (0, 0)).2)]]) (m := 2) (r := 0) (firsts := #[]) (caps := #[.pointer (some ⟨2, 0, none⟩)]) (args0 := [.agg #[.int .i64 ((ps.getD u (0, 0)).1), .int .i64 ((ps.getD u (0, 0)).2)], .pointer (some ⟨1, 0, none⟩)]) (pre0 := [(0, ⟨(qs.flatMap ptc), 24, true, 2⟩), (1, ⟨[.slice (some ⟨0, 0, none⟩) N 0], 37, true, 1⟩)]) (post0 := [(0, ⟨(qs.flatMap ptc), 24, true, 2⟩), (1, ⟨[.slice (some ⟨0, 0, none⟩) N 0], 37, true, 1⟩)]) (pre := [(1, ⟨(qs.flatMap ptc), 24, true, 2⟩), (2, ⟨[.slice (some ⟨1, 0, none⟩) N 0], 37, true, 1⟩)]) (post := [(1, ⟨(qs.flatMap ptc), 24, true, 2⟩), (2, ⟨[.slice (some ⟨1, 0, none⟩) N 0], 37, true, 1⟩)]) (v0 := .bool (Sp.aftP (qs.getD 0 (0, 0)) ((ps.getD u (0, 0)).1, (ps.getD u (0, 0)).2))) (v := .bool (Sp.aftP (qs.getD 0 (0, 0)) ((ps.getD u (0, 0)).1, (ps.getD u (0, 0)).2))) [1, 2] (by kernel_rfl) (by kernel_rfl) (by kernel_rfl) (by kernel_rfl) (lcl_ok qs N hQ hn hz ((ps.getD u (0, 0)).1) ((ps.getD u (0, 0)).2)) (.cons (.flatB (by kernel_rfl)) (.cons (.ptr _ _ (by decide)) .nil)) ⟨rfl, ⟨rfl, rfl, rfl, (.flats (flats_pair _))⟩, rfl, ⟨rfl, rfl, rfl, (.cons (.slice _ _ _ _ _ (by decide)) .nil)⟩, trivial⟩ (by kernel_rfl) (by kernel_rfl) (by kernel_rfl) ⟨rfl, ⟨rfl, rfl, rfl, (.flats (flats_pair _))⟩, rfl, ⟨rfl, rfl, rfl, (.cons (.slice _ _ _ _ _ (by decide)) .nil)⟩, trivial⟩ (.flatB (by kernel_rfl))) <| .nil _ _) ?_
    refine aw_cd 7150 7151 (Sp.aftP (qs.getD 0 (0, 0)) ((ps.getD u (0, 0)).1, (ps.getD u (0, 0)).2)) (fun h2 => ?_) (fun h2 => ?_)
    · refine aw_p 14301 (
        .a 2 3 <| .nil _ _) ?_
      refine aw_rt ?_
      refine block_ret ?_
      refine then_ret ?_
      refine then_ret ?_
      refine block_ret ?_
      refine then_ret ?_
      exact en_ret [.int .i64 ((u : Nat) : Int)] (show (.int .i64 ((u : Nat) : Int) : Value) = (.int .i64 (Sp.ixF (Sp.aftP (qs.getD 0 (0, 0))) ps 0)) from (congrArg (Value.int .i64) (show ((u : Nat) : Int) = (Sp.ixF (Sp.aftP (qs.getD 0 (0, 0))) ps 0) from by (first | exact (by rw [← hh, Sp.ixF_yes hil (by assumption)]) | exact (by rw [← hh, Sp.ixF_end hge])))))
    · refine aw_sk ?_
      refine block_normal ?_
      refine then_normal ?_
      refine aw_p1 (
        .p (does_i (((u : Nat) : Int) + 1) (wrap_i64 (by omega) (by omega)) .i64) <| .a 1 3 <| .nil _ _) ?_
      refine then_normal ?_
      refine al_w [(0, .slice (some ⟨0, 0, none⟩) N 0), (1, .func (.func 70) #[] #[.pointer (some ⟨2, 0, none⟩)]), (6, .slice (some ⟨0, 0, none⟩) N 0), (7, .int .i64 ((N : Nat) : Int)), (8, .int .i64 (((u + 1) : Nat) : Int))] [(0, ⟨(ps.flatMap ptc), 24, true, 2⟩), (1, ⟨(qs.flatMap ptc), 24, true, 2⟩), (2, ⟨[.slice (some ⟨1, 0, none⟩) N 0], 37, true, 1⟩)] ?_ (hc := (by simp [closedB, valsB, valB, List.all_eq_true, List.mem_flatMap, List.mem_range, List.mem_map, i64v, ptc, flat1]; try (intros; simp [valsB, valB, flat1]); try decide))
      exact ih1 (u + 1) (show ((u + 1) ≤ N) ∧ (Sp.ixF (Sp.aftP (qs.getD 0 (0, 0))) ps (u + 1) = Sp.ixF (Sp.aftP (qs.getD 0 (0, 0))) ps 0) from ⟨by omega, by (rw [← hh]; exact Sp.ixF_no hil (by assumption))⟩) (show N - (u + 1) < N - u from by omega)
  · have h1p : ¬ ((((u : Nat) : Int) < ((N : Nat) : Int))) := by first | (simpa using h1) | (have h1q := h1; simp at h1q; omega) | (have h1q := bx2 h1; simp at h1q; omega)
    have hge : ¬ u < ps.length := by omega
    refine aw_ex 0 ?_
    refine then_exit ?_
    refine then_exit ?_
    refine block_exit ?_
    refine then_normal ?_
    refine aw_p 15 (
      .a 1 3 <| .nil _ _) ?_
    refine aw_rt ?_
    exact en_ret [.int .i64 (-1)] (show (.int .i64 (-1) : Value) = (.int .i64 (Sp.ixF (Sp.aftP (qs.getD 0 (0, 0))) ps 0)) from (congrArg (Value.int .i64) (show (-1) = (Sp.ixF (Sp.aftP (qs.getD 0 (0, 0))) ps 0) from by (first | exact (by rw [← hh, Sp.ixF_yes hil (by assumption)]) | exact (by rw [← hh, Sp.ixF_end hge])))))

theorem clone_n (ps : List (Int × Int)) (N : Nat) (hN : ps.length = N) (hn : 1 ≤ N) (hz : N ≤ 4096) : AC Try.prog 68 1 [.slice (some ⟨0, 0, none⟩) N 0] [(0, ⟨(ps.flatMap ptc), 24, true, 2⟩)] (.slice (some ⟨1, 0, none⟩) N 0) [(0, ⟨(ps.flatMap ptc), 24, true, 2⟩), (1, ⟨(ps.flatMap ptc), 24, true, 2⟩)] := by
  subst hN
  exact clone_own ps hn hz
theorem rev_n (ps : List (Int × Int)) (N : Nat) (hN : ps.length = N) (hn : 1 ≤ N) (hz : N ≤ 4096) : AC Try.prog 69 1 [.slice (some ⟨0, 0, none⟩) N 0] [(0, ⟨(ps.flatMap ptc), 24, true, 2⟩)] (.tuple #[]) [(0, ⟨(ps.reverse.flatMap ptc), 24, true, 2⟩)] := by
  subst hN
  exact rev_ok ps hn hz
theorem norm_n (ps qs : List (Int × Int)) (m N : Nat) (hN : ps.length = N) (hn : 1 ≤ N) (hz : N ≤ 4096) (hm : m < N) (hd : Sp.Diff ps) (hl : Sp.Least ps m) (e : Sp.nrmL ps m = qs) : AC Try.prog 61 1 [.slice (some ⟨0, 0, none⟩) N 0] [(0, ⟨(ps.flatMap ptc), 24, true, 2⟩)] (.slice (some ⟨1, 0, none⟩) N 0) [(0, ⟨(ps.flatMap ptc), 24, true, 2⟩), (1, ⟨(qs.flatMap ptc), 24, true, 2⟩)] := by
  subst hN
  subst e
  exact norm_own ps m hn hz hm hd hl

end Go.Proofs.Ytigllakcfdoagaa.Am
