/-
  The walks of the check of a ring: which points.
-/
import Derived.Test.YtndkhgfecnbmnaaProg
import Derived.Test.YtndkhgfecnbmnaaAm16
import Derived.Test.YtndkhgfecnbmnaaRg8
import Derived.Test.YtndkhgfecnbmnaaAm21
import Derived.Test.YtndkhgfecnbmnaaSg3
namespace Go.Proofs.Ytndkhgfecnbmnaa.Am
open Go Go.Proofs
set_option maxRecDepth 100000
set_option maxHeartbeats 4000000
set_option linter.unusedVariables false
set_option linter.unusedSimpArgs false

theorem notok_ok (x y : Int) :
    AC Try.prog 84 0 ([.agg #[.int .i64 x, .int .i64 y]]) [] (.bool (Sp.nok (x, y))) [] := by
  refine ac_in Try.func84 (fun w0 W pin => ?_)
  refine aw_p 3 (
    .a 2 1 <| .nil _ _) ?_
  refine aw_p 7 (
    .a 1 2 <| .p (does_c (pok_ok x y)) <| .a 2 2 <| .nil _ _) ?_
  refine aw_rt ?_
  exact en_ret [.bool (!((x == (Sp.lim 1048576 x)) && ((y == (Sp.lim 1048576 y)) && true)))] (show (.bool (!((x == (Sp.lim 1048576 x)) && ((y == (Sp.lim 1048576 y)) && true))) : Value) = (.bool (Sp.nok (x, y))) from (congrArg Value.bool (show (!((x == (Sp.lim 1048576 x)) && ((y == (Sp.lim 1048576 y)) && true))) = (Sp.nok (x, y)) from by rfl)))

theorem ixf_nok_own (ps : List (Int × Int)) (hz : ps.length ≤ 9223372036854775807) :
    AC Try.prog 117 1 ([.slice (some ⟨0, 0, none⟩) ps.length 0, .func (.func 84) #[] #[]]) [(0, ⟨(ps.flatMap ptc), 28, true, 2⟩)] (.int .i64 (Sp.ixF Sp.nok ps 0)) [(0, ⟨(ps.flatMap ptc), 28, true, 2⟩)] := by
  refine ac_in Try.func117 (fun w0 W pin => ?_)
  refine aw_p 3 (
    .a 1 1 <| .nil _ _) ?_
  refine aw_sq 6 7 ?_
  refine aw_p 13 (
    .a 3 1 <| .nil _ _) ?_
  refine aw_bl 0 27 ?_
  refine aw_lp 55 ?_
  refine al_w [(0, .slice (some ⟨0, 0, none⟩) ps.length 0), (1, .func (.func 84) #[] #[]), (6, .slice (some ⟨0, 0, none⟩) ps.length 0), (7, .int .i64 ((ps.length : Nat) : Int)), (8, .int .i64 ((0 : Nat) : Int))] [(0, ⟨(ps.flatMap ptc), 28, true, 2⟩)] ?_ (hc := (by simp [closedB, valsB, valB, List.all_eq_true, List.mem_flatMap, List.mem_range, List.mem_map, i64v, ptc, flat1]; try (intros; simp [valsB, valB, flat1]); try decide))
  refine al_ind (fun i : Nat => (fun (i : Nat) => mkSt 1 [(0, .slice (some ⟨0, 0, none⟩) ps.length 0), (1, .func (.func 84) #[] #[]), (6, .slice (some ⟨0, 0, none⟩) ps.length 0), (7, .int .i64 ((ps.length : Nat) : Int)), (8, .int .i64 ((i : Nat) : Int))] [(0, ⟨(ps.flatMap ptc), 28, true, 2⟩)]) i) (fun i : Nat => (fun (i : Nat) => (i ≤ ps.length) ∧ (Sp.ixF Sp.nok ps i = Sp.ixF Sp.nok ps 0)) i) (fun i : Nat => (fun (i : Nat) => ps.length - i) i) (fun i hi1 ih1 => ?_) 0 (show (0 ≤ ps.length) ∧ (Sp.ixF Sp.nok ps 0 = Sp.ixF Sp.nok ps 0) from ⟨by omega, by rfl⟩)
  obtain ⟨i, hv1⟩ : ∃ z, z = i := ⟨i, rfl⟩; subst hv1
  have hi1' : (i ≤ ps.length) ∧ (Sp.ixF Sp.nok ps i = Sp.ixF Sp.nok ps 0) := hi1
  obtain ⟨hi, hh⟩ := hi1'
  show AL _ _ _ (mkSt 1 [(0, .slice (some ⟨0, 0, none⟩) ps.length 0), (1, .func (.func 84) #[] #[]), (6, .slice (some ⟨0, 0, none⟩) ps.length 0), (7, .int .i64 ((ps.length : Nat) : Int)), (8, .int .i64 ((i : Nat) : Int))] [(0, ⟨(ps.flatMap ptc), 28, true, 2⟩)]) _
  refine al_round ?_
  refine aw_p 111 (
    .a 1 1 <| .nil _ _) ?_
  refine aw_sq 222 223 ?_
  refine aw_cd 444 445 (decide (((i : Nat) : Int) < ((ps.length : Nat) : Int))) (fun h1 => ?_) (fun h1 => ?_)
  · have h1p : ((((i : Nat) : Int) < ((ps.length : Nat) : Int))) := by first | (simpa using h1) | (have h1q := h1; simp at h1q; omega) | (have h1q := bx1 h1; simp at h1q; omega)
    have hil : i < ps.length := by omega
    refine aw_sk ?_
    refine then_normal ?_
    refine aw_sq 446 447 ?_
    refine aw_bl 1 893 ?_
    refine aw_p 1787 (
      .a 2 1 <| .nil _ _) ?_
    refine aw_p 3575 (
      .a 3 1 <| .p (does_indexSlice (t := 30) (x := .tmp 12) (y := .tmp 13) (k := 0) (off := 0) (n := ps.length) (c := 0) (z := 2) (kd := .i64) (j := ((i : Nat) : Int)) (by kernel_rfl) (by kernel_rfl) (by kernel_rfl) (by kernel_rfl) (by kernel_rfl) (by omega) (by omega)) <|
      .p (does_load (t := 28) (x := .tmp 14) (k := 0) (off := (0 + (((i : Nat) : Int)).toNat * 2)) (b := ⟨(ps.flatMap ptc), 28, true, 2⟩) (v := .agg #[.int .i64 ((ps.getD i (0, 0)).1), .int .i64 ((ps.getD i (0, 0)).2)]) (by kernel_rfl) (by kernel_rfl) (by kernel_rfl) (ldV_pair (j := i) (by kernel_rfl) (by kernel_rfl) (by omega) (by omega))) <|
      .p (does_c (notok_ok ((ps.getD i (0, 0)).1) ((ps.getD i (0, 0)).2))) <| .nil _ _) ?_
    refine aw_cd 7150 7151 (Sp.nok ((ps.getD i (0, 0)).1, (ps.getD i (0, 0)).2)) (fun h2 => ?_) (fun h2 => ?_)
    · refine aw_p 14301 (
        .a 2 1 <| .nil _ _) ?_
      refine aw_rt ?_
      refine block_ret ?_
      refine then_ret ?_
      refine then_ret ?_
      refine block_ret ?_
      refine then_ret ?_
      exact en_ret [.int .i64 ((i : Nat) : Int)] (show (.int .i64 ((i : Nat) : Int) : Value) = (.int .i64 (Sp.ixF Sp.nok ps 0)) from (congrArg (Value.int .i64) (show ((i : Nat) : Int) = (Sp.ixF Sp.nok ps 0) from by (first | exact (by rw [← hh, Sp.ixF_yes hil (by assumption)]) | exact (by rw [← hh, Sp.ixF_end hge])))))
    · refine aw_sk ?_
      refine block_normal ?_
      refine then_normal ?_
      refine aw_p1 (
        .p (does_i (((i : Nat) : Int) + 1) (wrap_i64 (by omega) (by omega)) .i64) <| .a 1 1 <| .nil _ _) ?_
      refine then_normal ?_
      refine al_w [(0, .slice (some ⟨0, 0, none⟩) ps.length 0), (1, .func (.func 84) #[] #[]), (6, .slice (some ⟨0, 0, none⟩) ps.length 0), (7, .int .i64 ((ps.length : Nat) : Int)), (8, .int .i64 (((i + 1) : Nat) : Int))] [(0, ⟨(ps.flatMap ptc), 28, true, 2⟩)] ?_ (hc := (by simp [closedB, valsB, valB, List.all_eq_true, List.mem_flatMap, List.mem_range, List.mem_map, i64v, ptc, flat1]; try (intros; simp [valsB, valB, flat1]); try decide))
      exact ih1 (i + 1) (show ((i + 1) ≤ ps.length) ∧ (Sp.ixF Sp.nok ps (i + 1) = Sp.ixF Sp.nok ps 0) from ⟨by omega, by (rw [← hh]; exact Sp.ixF_no hil (by assumption))⟩) (show ps.length - (i + 1) < ps.length - i from by omega)
  · have h1p : ¬ ((((i : Nat) : Int) < ((ps.length : Nat) : Int))) := by first | (simpa using h1) | (have h1q := h1; simp at h1q; omega) | (have h1q := bx2 h1; simp at h1q; omega)
    have hge : ¬ i < ps.length := by omega
    refine aw_ex 0 ?_
    refine then_exit ?_
    refine then_exit ?_
    refine block_exit ?_
    refine then_normal ?_
    refine aw_p 15 (
      .a 1 1 <| .nil _ _) ?_
    refine aw_rt ?_
    exact en_ret [.int .i64 (-1)] (show (.int .i64 (-1) : Value) = (.int .i64 (Sp.ixF Sp.nok ps 0)) from (congrArg (Value.int .i64) (show (-1) = (Sp.ixF Sp.nok ps 0) from by (first | exact (by rw [← hh, Sp.ixF_yes hil (by assumption)]) | exact (by rw [← hh, Sp.ixF_end hge])))))

theorem ixf_nokn_own (ps : List (Int × Int)) (N : Nat) (hN : ps.length = N) (hz : N ≤ 9223372036854775807) : AC Try.prog 117 1 [.slice (some ⟨0, 0, none⟩) N 0, .func (.func 84) #[] #[]] [(0, ⟨(ps.flatMap ptc), 28, true, 2⟩)] (.int .i64 (Sp.ixF Sp.nok ps 0)) [(0, ⟨(ps.flatMap ptc), 28, true, 2⟩)] := by
  subst hN
  exact ixf_nok_own ps hz

end Go.Proofs.Ytndkhgfecnbmnaa.Am
