import Derived.Test.YtndkhgfecnbmnaaGreatProg
import Derived.Test.YtndkhgfecnbmnaaGreatM2
import Derived.Test.YtndkhgfecnbmnaaGreatM5
import Derived.Test.YtndkhgfecnbmnaaGreatM3
import Derived.Test.YtndkhgfecnbmnaaGreatM4
namespace Go.Proofs.YtndkhgfecnbmnaaGreat.Am
open Go Go.Proofs
set_option maxRecDepth 100000
set_option maxHeartbeats 4000000
set_option linter.unusedVariables false
set_option linter.unusedSimpArgs false
theorem fits_ok (ps qs : List (Int × Int)) (v w : Int) (zps : 1 ≤ ps.length ∧ ps.length ≤ 200) (fps : Sp.Few 1000 ps) (zqs : 1 ≤ qs.length ∧ qs.length ≤ 200) (fqs : Sp.Few 1000 qs) (hF : Sp.Fit ps qs v w) :
    AC Tryz.prog 35 2 ([sV 0 ps.length, sV 1 qs.length]) [(0, (pB ps)), (1, (pB qs))] (.bool true) [(0, (pB ps)), (1, (pB qs))] := by
  refine ac_in Tryz.func35 (fun w0 W pin => ?_)
  refine aw_p 3 (
    .a 1 2 <| .nil _ _) ?_
  refine aw_sq 6 7 ?_
  refine aw_p 13 (
    .a 3 2 <| .nil _ _) ?_
  refine aw_bl 0 27 ?_
  refine aw_lp 55 ?_
  refine al_w [(0, sV 0 ps.length), (1, sV 1 qs.length), (8, .int .i64 ((ps.length : Nat) : Int)), (9, .int .i64 ((0 : Nat) : Int))] [(0, (pB ps)), (1, (pB qs))] ?_ (hc := (by simp [closedB, valsB, valB, List.all_eq_true, List.mem_flatMap, List.mem_range, List.mem_map, i64v, ptc, flat1]; try (intros; simp [valsB, valB, flat1]); try decide))
  refine al_ind (fun i : Nat => (fun (u : Nat) => mkSt 2 [(0, sV 0 ps.length), (1, sV 1 qs.length), (8, .int .i64 ((ps.length : Nat) : Int)), (9, .int .i64 ((u : Nat) : Int))] [(0, (pB ps)), (1, (pB qs))]) i) (fun i : Nat => (fun (u : Nat) => (u ≤ ps.length)) i) (fun i : Nat => (fun (u : Nat) => ps.length - u) i) (fun i hi1 ih1 => ?_) 0 (show (0 ≤ ps.length) from by omega)
  obtain ⟨u, hv1⟩ : ∃ z, z = i := ⟨i, rfl⟩; subst hv1
  have hi1' : (u ≤ ps.length) := hi1
  have hu : u ≤ ps.length := hi1'
  show AL _ _ _ (mkSt 2 [(0, sV 0 ps.length), (1, sV 1 qs.length), (8, .int .i64 ((ps.length : Nat) : Int)), (9, .int .i64 ((u : Nat) : Int))] [(0, (pB ps)), (1, (pB qs))]) _
  refine al_round ?_
  refine aw_p 111 (
    .a 1 2 <| .nil _ _) ?_
  refine aw_sq 222 223 ?_
  refine aw_cd 444 445 (decide (((u : Nat) : Int) < ((ps.length : Nat) : Int))) (fun h1 => ?_) (fun h1 => ?_)
  · have h1p : ((((u : Nat) : Int) < ((ps.length : Nat) : Int))) := by first | (simpa using h1) | (have h1q := h1; simp at h1q; omega) | (have h1q := bx1 h1; simp at h1q; omega)
    have hul : u < ps.length := (by omega); obtain ⟨u2, hu2⟩ : ∃ j, (u + 1) % ps.length = j := ⟨_, rfl⟩; have hu2l : u2 < ps.length := hu2 ▸ Nat.mod_lt _ (by omega)
    refine aw_sk ?_
    refine then_normal ?_
    refine aw_sq 446 447 ?_
    refine aw_bl 1 893 ?_
    refine aw_p 1787 (
      .a 2 2 <| .nil _ _) ?_
    refine aw_p 3575 (
      .a 3 2 <| .nil _ _) ?_
    refine aw_bl 2 7151 ?_
    refine aw_lp 14303 ?_
    refine al_w [(0, sV 0 ps.length), (1, sV 1 qs.length), (5, .int .i64 ((u : Nat) : Int)), (8, .int .i64 ((ps.length : Nat) : Int)), (9, .int .i64 ((u : Nat) : Int)), (13, .int .i64 ((qs.length : Nat) : Int)), (14, .int .i64 ((0 : Nat) : Int))] [(0, (pB ps)), (1, (pB qs))] ?_ (hc := (by simp [closedB, valsB, valB, List.all_eq_true, List.mem_flatMap, List.mem_range, List.mem_map, i64v, ptc, flat1]; try (intros; simp [valsB, valB, flat1]); try decide))
    refine al_ind (fun i : Nat => (fun (k : Nat) => mkSt 2 [(0, sV 0 ps.length), (1, sV 1 qs.length), (5, .int .i64 ((u : Nat) : Int)), (8, .int .i64 ((ps.length : Nat) : Int)), (9, .int .i64 ((u : Nat) : Int)), (13, .int .i64 ((qs.length : Nat) : Int)), (14, .int .i64 ((k : Nat) : Int))] [(0, (pB ps)), (1, (pB qs))]) i) (fun i : Nat => (fun (k : Nat) => (k ≤ qs.length)) i) (fun i : Nat => (fun (k : Nat) => qs.length - k) i) (fun i hi2 ih2 => ?_) 0 (show (0 ≤ qs.length) from by omega)
    obtain ⟨k, hv2⟩ : ∃ z, z = i := ⟨i, rfl⟩; subst hv2
    have hi2' : (k ≤ qs.length) := hi2
    have hk : k ≤ qs.length := hi2'
    show AL _ _ _ (mkSt 2 [(0, sV 0 ps.length), (1, sV 1 qs.length), (5, .int .i64 ((u : Nat) : Int)), (8, .int .i64 ((ps.length : Nat) : Int)), (9, .int .i64 ((u : Nat) : Int)), (13, .int .i64 ((qs.length : Nat) : Int)), (14, .int .i64 ((k : Nat) : Int))] [(0, (pB ps)), (1, (pB qs))]) _
    refine al_round ?_
    refine aw_p 28607 (
      .a 1 2 <| .nil _ _) ?_
    refine aw_sq 57214 57215 ?_
    refine aw_cd 114428 114429 (decide (((k : Nat) : Int) < ((qs.length : Nat) : Int))) (fun h2 => ?_) (fun h2 => ?_)
    · have h2p : ((((k : Nat) : Int) < ((qs.length : Nat) : Int))) := by first | (simpa using h2) | (have h2q := h2; simp at h2q; omega) | (have h2q := bx1 h2; simp at h2q; omega)
      have hkl : k < qs.length := (by omega); obtain ⟨k2, hk2⟩ : ∃ j, (k + 1) % qs.length = j := ⟨_, rfl⟩; have hk2l : k2 < qs.length := hk2 ▸ Nat.mod_lt _ (by omega)
      refine aw_sk ?_
      refine then_normal ?_
      refine aw_sq 114430 114431 ?_
      refine aw_bl 3 228861 ?_
      refine aw_p 457723 (
        .a 2 2 <| .nil _ _) ?_
      refine aw_d 915447 (
        .a 2 2 <| .p (does_indexSlice (t := 39) (x := .tmp 17) (y := .tmp 18) (k := 0) (off := 0) (n := ps.length) (c := 0) (z := 2) (kd := .i64) (j := ((u : Nat) : Int)) (by kernel_rfl) (by kernel_rfl) (by kernel_rfl) (by kernel_rfl) (by kernel_rfl) (by omega) (by omega)) <|
        .p (does_load (t := 28) (x := .tmp 19) (k := 0) (off := (0 + (((u : Nat) : Int)).toNat * 2)) (b := (pB ps)) (v := .agg #[.int .i64 ((ps.getD u (0, 0)).1), .int .i64 ((ps.getD u (0, 0)).2)]) (by kernel_rfl) (by kernel_rfl) (by kernel_rfl) (ldV_pair (j := u) (by kernel_rfl) (by kernel_rfl) (by omega) (by omega))) <|
        .a 2 2 <| .p (does_i (((u : Nat) : Int) + 1) (wrap_i64 (by omega) (by omega)) .i64) <| .a 2 2 <|
        .p (does_int (n' := ((u2 : Nat) : Int)) (does_rem (t := 3) (t2 := 3) (x := .tmp 23) (y := .tmp 25) (k := .i64) (a := (((u : Nat) : Int) + 1)) (b := ((ps.length : Nat) : Int)) (by kernel_rfl) (by kernel_rfl) (by kernel_rfl) (by omega)) ((show (Int.tmod (((u : Nat) : Int) + 1) ((ps.length : Nat) : Int)) = ((u2 : Nat) : Int) from (by rw [← hu2]; exact rfl)))) <|
        .p (does_indexSlice (t := 39) (x := .tmp 21) (y := .tmp 26) (k := 0) (off := 0) (n := ps.length) (c := 0) (z := 2) (kd := .i64) (j := ((u2 : Nat) : Int)) (by kernel_rfl) (by kernel_rfl) (by kernel_rfl) (by kernel_rfl) (by kernel_rfl) (by omega) (by omega)) <|
        .p (does_load (t := 28) (x := .tmp 27) (k := 0) (off := (0 + (((u2 : Nat) : Int)).toNat * 2)) (b := (pB ps)) (v := .agg #[.int .i64 ((ps.getD u2 (0, 0)).1), .int .i64 ((ps.getD u2 (0, 0)).2)]) (by kernel_rfl) (by kernel_rfl) (by kernel_rfl) (ldV_pair (j := u2) (by kernel_rfl) (by kernel_rfl) (by omega) (by omega))) <|
        .a 2 2 <| .p (does_indexSlice (t := 39) (x := .tmp 29) (y := .tmp 30) (k := 1) (off := 0) (n := qs.length) (c := 0) (z := 2) (kd := .i64) (j := ((k : Nat) : Int)) (by kernel_rfl) (by kernel_rfl) (by kernel_rfl) (by kernel_rfl) (by kernel_rfl) (by omega) (by omega)) <|
        .p (does_load (t := 28) (x := .tmp 31) (k := 1) (off := (0 + (((k : Nat) : Int)).toNat * 2)) (b := (pB qs)) (v := .agg #[.int .i64 ((qs.getD k (0, 0)).1), .int .i64 ((qs.getD k (0, 0)).2)]) (by kernel_rfl) (by kernel_rfl) (by kernel_rfl) (ldV_pair (j := k) (by kernel_rfl) (by kernel_rfl) (by omega) (by omega))) <|
        .a 2 2 <| .p (does_i (((k : Nat) : Int) + 1) (wrap_i64 (by omega) (by omega)) .i64) <| .a 2 2 <|
        .p (does_int (n' := ((k2 : Nat) : Int)) (does_rem (t := 3) (t2 := 3) (x := .tmp 35) (y := .tmp 37) (k := .i64) (a := (((k : Nat) : Int) + 1)) (b := ((qs.length : Nat) : Int)) (by kernel_rfl) (by kernel_rfl) (by kernel_rfl) (by omega)) ((show (Int.tmod (((k : Nat) : Int) + 1) ((qs.length : Nat) : Int)) = ((k2 : Nat) : Int) from (by rw [← hk2]; exact rfl)))) <|
        .p (does_indexSlice (t := 39) (x := .tmp 33) (y := .tmp 38) (k := 1) (off := 0) (n := qs.length) (c := 0) (z := 2) (kd := .i64) (j := ((k2 : Nat) : Int)) (by kernel_rfl) (by kernel_rfl) (by kernel_rfl) (by kernel_rfl) (by kernel_rfl) (by omega) (by omega)) <|
        .p (does_load (t := 28) (x := .tmp 39) (k := 1) (off := (0 + (((k2 : Nat) : Int)).toNat * 2)) (b := (pB qs)) (v := .agg #[.int .i64 ((qs.getD k2 (0, 0)).1), .int .i64 ((qs.getD k2 (0, 0)).2)]) (by kernel_rfl) (by kernel_rfl) (by kernel_rfl) (ldV_pair (j := k2) (by kernel_rfl) (by kernel_rfl) (by omega) (by omega))) <|
        .p (does_cb _ (corners_ok ((ps.getD u (0, 0)).1) ((ps.getD u (0, 0)).2) ((ps.getD u2 (0, 0)).1) ((ps.getD u2 (0, 0)).2) ((qs.getD k (0, 0)).1) ((qs.getD k (0, 0)).2) ((qs.getD k2 (0, 0)).1) ((qs.getD k2 (0, 0)).2)) true ((show (Sp.cornX ((ps.getD u (0, 0)).1) ((ps.getD u (0, 0)).2) ((ps.getD u2 (0, 0)).1) ((ps.getD u2 (0, 0)).2) ((qs.getD k (0, 0)).1) ((qs.getD k (0, 0)).2) ((qs.getD k2 (0, 0)).1) ((qs.getD k2 (0, 0)).2)) = true from (by rw [Sp.corn_at hF.1 hul hkl hu2 hk2])))) <|
        .a 1 2 <| .nil _ _) ?_
      refine aw_fl 1830895 ?_
      refine aw_sk ?_
      refine block_normal ?_
      refine then_normal ?_
      refine aw_p1 (
        .p (does_i (((k : Nat) : Int) + 1) (wrap_i64 (by omega) (by omega)) .i64) <| .a 1 2 <| .nil _ _) ?_
      refine then_normal ?_
      refine al_w [(0, sV 0 ps.length), (1, sV 1 qs.length), (5, .int .i64 ((u : Nat) : Int)), (8, .int .i64 ((ps.length : Nat) : Int)), (9, .int .i64 ((u : Nat) : Int)), (13, .int .i64 ((qs.length : Nat) : Int)), (14, .int .i64 (((k + 1) : Nat) : Int))] [(0, (pB ps)), (1, (pB qs))] ?_ (hc := (by simp [closedB, valsB, valB, List.all_eq_true, List.mem_flatMap, List.mem_range, List.mem_map, i64v, ptc, flat1]; try (intros; simp [valsB, valB, flat1]); try decide))
      exact ih2 (k + 1) (show ((k + 1) ≤ qs.length) from by omega) (show qs.length - (k + 1) < qs.length - k from by omega)
    · have h2p : ¬ ((((k : Nat) : Int) < ((qs.length : Nat) : Int))) := by first | (simpa using h2) | (have h2q := h2; simp at h2q; omega) | (have h2q := bx2 h2; simp at h2q; omega)
      refine aw_ex 2 ?_
      refine then_exit ?_
      refine then_exit ?_
      refine block_exit ?_
      refine block_normal ?_
      refine then_normal ?_
      refine aw_p1 (
        .p (does_i (((u : Nat) : Int) + 1) (wrap_i64 (by omega) (by omega)) .i64) <| .a 1 2 <| .nil _ _) ?_
      refine then_normal ?_
      refine al_w [(0, sV 0 ps.length), (1, sV 1 qs.length), (8, .int .i64 ((ps.length : Nat) : Int)), (9, .int .i64 (((u + 1) : Nat) : Int))] [(0, (pB ps)), (1, (pB qs))] ?_ (hc := (by simp [closedB, valsB, valB, List.all_eq_true, List.mem_flatMap, List.mem_range, List.mem_map, i64v, ptc, flat1]; try (intros; simp [valsB, valB, flat1]); try decide))
      exact ih1 (u + 1) (show ((u + 1) ≤ ps.length) from by omega) (show ps.length - (u + 1) < ps.length - u from by omega)
  · have h1p : ¬ ((((u : Nat) : Int) < ((ps.length : Nat) : Int))) := by first | (simpa using h1) | (have h1q := h1; simp at h1q; omega) | (have h1q := bx2 h1; simp at h1q; omega)
    refine aw_ex 0 ?_
    refine then_exit ?_
    refine then_exit ?_
    refine block_exit ?_
    refine then_normal ?_
    refine aw_p 15 (
      .a 2 2 <|
      .p (cF #[.tmp 45, .tmp 46] #[39, 39] [sV 0 ps.length, sV 1 qs.length] 1 [0, 1, 2] [(0, (pB ps)), (1, (pB qs))] [(0, (pB ps)), (1, (pB qs)), (2, ⟨[.int .i64 v], 3, true, 1⟩)] (sV 2 1) (sides_ok ps qs v zps fps zqs fqs hF.2.1) (.cons rS (.cons rS .nil)) ⟨rfl, bP, rfl, bP, trivial⟩ ⟨rfl, bP, rfl, bP, rfl, ⟨rfl, rfl, rfl, (.flats (by kernel_rfl))⟩, trivial⟩ rS) <|
      .a 5 3 <|
      .p (cF #[.tmp 51, .tmp 52] #[39, 39] [sV 1 qs.length, sV 0 ps.length] 1 [1, 0, 3] [(1, (pB qs)), (0, (pB ps))] [(1, (pB qs)), (0, (pB ps)), (3, ⟨[.int .i64 w], 3, true, 1⟩)] (sV 3 1) (sides_ok qs ps w zqs fqs zps fps hF.2.2) (.cons rS (.cons rS .nil)) ⟨rfl, bP, rfl, bP, trivial⟩ ⟨rfl, bP, rfl, bP, rfl, ⟨rfl, rfl, rfl, (.flats (by kernel_rfl))⟩, trivial⟩ rS) <|
      .a 4 4 <| .nil _ _) ?_
    refine aw_rt ?_
    exact en_ret [.bool true] (by kernel_rfl)
end Go.Proofs.YtndkhgfecnbmnaaGreat.Am

namespace Go.Proofs.YtndkhgfecnbmnaaGreat.Am
open Go Go.Proofs
set_option maxRecDepth 100000
set_option maxHeartbeats 4000000
set_option linter.unusedVariables false
set_option linter.unusedSimpArgs false
theorem notok_ok (x y : Int) :
    AC Tryz.prog 60 0 ([.agg #[.int .i64 x, .int .i64 y]]) [] (.bool (Sp.nok (x, y))) [] := by
  refine ac_in Tryz.func60 (fun w0 W pin => ?_)
  refine aw_p 3 (
    .a 2 1 <| .nil _ _) ?_
  refine aw_p 7 (
    .a 1 2 <| .p (does_c (pok_ok x y)) <| .a 2 2 <| .nil _ _) ?_
  refine aw_rt ?_
  exact en_ret [.bool (!((x == (Sp.lim 1048576 x)) && ((y == (Sp.lim 1048576 y)) && true)))] (show (.bool (!((x == (Sp.lim 1048576 x)) && ((y == (Sp.lim 1048576 y)) && true))) : Value) = (.bool (Sp.nok (x, y))) from (congrArg Value.bool (show (!((x == (Sp.lim 1048576 x)) && ((y == (Sp.lim 1048576 y)) && true))) = (Sp.nok (x, y)) from by rfl)))
theorem ixf_nok_own (ps : List (Int × Int)) (hz : ps.length ≤ 9223372036854775807) :
    AC Tryz.prog 89 1 ([sV 0 ps.length, .func (.func 60) #[] #[]]) [(0, (pB ps))] (.int .i64 (Sp.ixF Sp.nok ps 0)) [(0, (pB ps))] := by
  refine ac_in Tryz.func89 (fun w0 W pin => ?_)
  refine aw_p 3 (
    .a 1 1 <| .nil _ _) ?_
  refine aw_sq 6 7 ?_
  refine aw_p 13 (
    .a 3 1 <| .nil _ _) ?_
  refine aw_bl 0 27 ?_
  refine aw_lp 55 ?_
  refine al_w [(0, sV 0 ps.length), (1, .func (.func 60) #[] #[]), (7, .int .i64 ((ps.length : Nat) : Int)), (8, .int .i64 ((0 : Nat) : Int))] [(0, (pB ps))] ?_ (hc := (by simp [closedB, valsB, valB, List.all_eq_true, List.mem_flatMap, List.mem_range, List.mem_map, i64v, ptc, flat1]; try (intros; simp [valsB, valB, flat1]); try decide))
  refine al_ind (fun i : Nat => (fun (i : Nat) => mkSt 1 [(0, sV 0 ps.length), (1, .func (.func 60) #[] #[]), (7, .int .i64 ((ps.length : Nat) : Int)), (8, .int .i64 ((i : Nat) : Int))] [(0, (pB ps))]) i) (fun i : Nat => (fun (i : Nat) => (i ≤ ps.length) ∧ (Sp.ixF Sp.nok ps i = Sp.ixF Sp.nok ps 0)) i) (fun i : Nat => (fun (i : Nat) => ps.length - i) i) (fun i hi1 ih1 => ?_) 0 (show (0 ≤ ps.length) ∧ (Sp.ixF Sp.nok ps 0 = Sp.ixF Sp.nok ps 0) from ⟨by omega, by rfl⟩)
  obtain ⟨i, hv1⟩ : ∃ z, z = i := ⟨i, rfl⟩; subst hv1
  have hi1' : (i ≤ ps.length) ∧ (Sp.ixF Sp.nok ps i = Sp.ixF Sp.nok ps 0) := hi1
  obtain ⟨hi, hh⟩ := hi1'
  show AL _ _ _ (mkSt 1 [(0, sV 0 ps.length), (1, .func (.func 60) #[] #[]), (7, .int .i64 ((ps.length : Nat) : Int)), (8, .int .i64 ((i : Nat) : Int))] [(0, (pB ps))]) _
  refine al_round ?_
  refine aw_p 111 (
    .a 1 1 <| .nil _ _) ?_
  refine aw_sq 222 223 ?_
  refine aw_cd 444 445 (decide (((i : Nat) : Int) < ((ps.length : Nat) : Int))) (fun h1 => ?_) (fun h1 => ?_)
  · have h1p : ((((i : Nat) : Int) < ((ps.length : Nat) : Int))) := by first | (simpa using h1) | (have h1q := h1; simp at h1q; omega) | (have h1q := bx1 h1; simp at h1q; omega)
    have hil : i < ps.length := by omega
    refine aw_sk ?_
    refine then_normal ?_
    refine aw_sq 446 447 ?_
    refine aw_bl 1 893 ?_
    refine aw_p 1787 (
      .a 2 1 <| .nil _ _) ?_
    refine aw_p 3575 (
      .a 3 1 <| .p (does_indexSlice (t := 39) (x := .tmp 12) (y := .tmp 13) (k := 0) (off := 0) (n := ps.length) (c := 0) (z := 2) (kd := .i64) (j := ((i : Nat) : Int)) (by kernel_rfl) (by kernel_rfl) (by kernel_rfl) (by kernel_rfl) (by kernel_rfl) (by omega) (by omega)) <|
      .p (does_load (t := 28) (x := .tmp 14) (k := 0) (off := (0 + (((i : Nat) : Int)).toNat * 2)) (b := (pB ps)) (v := .agg #[.int .i64 ((ps.getD i (0, 0)).1), .int .i64 ((ps.getD i (0, 0)).2)]) (by kernel_rfl) (by kernel_rfl) (by kernel_rfl) (ldV_pair (j := i) (by kernel_rfl) (by kernel_rfl) (by omega) (by omega))) <|
      .p (does_c (notok_ok ((ps.getD i (0, 0)).1) ((ps.getD i (0, 0)).2))) <| .nil _ _) ?_
    refine aw_cd 7150 7151 (Sp.nok ((ps.getD i (0, 0)).1, (ps.getD i (0, 0)).2)) (fun h2 => ?_) (fun h2 => ?_)
    · refine aw_p 14301 (
        .a 2 1 <| .nil _ _) ?_
      refine aw_rt ?_
      refine block_ret ?_
      refine then_ret ?_
      refine then_ret ?_
      refine block_ret ?_
      refine then_ret ?_
      exact en_ret [.int .i64 ((i : Nat) : Int)] (show (.int .i64 ((i : Nat) : Int) : Value) = (.int .i64 (Sp.ixF Sp.nok ps 0)) from (congrArg (Value.int .i64) (show ((i : Nat) : Int) = (Sp.ixF Sp.nok ps 0) from by (first | exact (by rw [← hh, Sp.ixF_yes hil (by assumption)]) | exact (by rw [← hh, Sp.ixF_end hge])))))
    · refine aw_sk ?_
      refine block_normal ?_
      refine then_normal ?_
      refine aw_p1 (
        .p (does_i (((i : Nat) : Int) + 1) (wrap_i64 (by omega) (by omega)) .i64) <| .a 1 1 <| .nil _ _) ?_
      refine then_normal ?_
      refine al_w [(0, sV 0 ps.length), (1, .func (.func 60) #[] #[]), (7, .int .i64 ((ps.length : Nat) : Int)), (8, .int .i64 (((i + 1) : Nat) : Int))] [(0, (pB ps))] ?_ (hc := (by simp [closedB, valsB, valB, List.all_eq_true, List.mem_flatMap, List.mem_range, List.mem_map, i64v, ptc, flat1]; try (intros; simp [valsB, valB, flat1]); try decide))
      exact ih1 (i + 1) (show ((i + 1) ≤ ps.length) ∧ (Sp.ixF Sp.nok ps (i + 1) = Sp.ixF Sp.nok ps 0) from ⟨by omega, by (rw [← hh]; exact Sp.ixF_no hil (by assumption))⟩) (show ps.length - (i + 1) < ps.length - i from by omega)
  · have h1p : ¬ ((((i : Nat) : Int) < ((ps.length : Nat) : Int))) := by first | (simpa using h1) | (have h1q := h1; simp at h1q; omega) | (have h1q := bx2 h1; simp at h1q; omega)
    have hge : ¬ i < ps.length := by omega
    refine aw_ex 0 ?_
    refine then_exit ?_
    refine then_exit ?_
    refine block_exit ?_
    refine then_normal ?_
    refine aw_p 15 (
      .a 1 1 <| .nil _ _) ?_
    refine aw_rt ?_
    exact en_ret [.int .i64 (-1)] (show (.int .i64 (-1) : Value) = (.int .i64 (Sp.ixF Sp.nok ps 0)) from (congrArg (Value.int .i64) (show (-1) = (Sp.ixF Sp.nok ps 0) from by (first | exact (by rw [← hh, Sp.ixF_yes hil (by assumption)]) | exact (by rw [← hh, Sp.ixF_end hge])))))
theorem ixf_nokn_own (ps : List (Int × Int)) (N : Nat) (hN : ps.length = N) (hz : N ≤ 9223372036854775807) : AC Tryz.prog 89 1 [.slice (some ⟨0, 0, none⟩) N 0, .func (.func 60) #[] #[]] [(0, ⟨(ps.flatMap ptc), 28, true, 2⟩)] (.int .i64 (Sp.ixF Sp.nok ps 0)) [(0, ⟨(ps.flatMap ptc), 28, true, 2⟩)] := by
  subst hN
  exact ixf_nok_own ps hz
end Go.Proofs.YtndkhgfecnbmnaaGreat.Am

namespace Go.Proofs.YtndkhgfecnbmnaaGreat.Am
open Go Go.Proofs
set_option maxRecDepth 100000
set_option maxHeartbeats 4000000
set_option linter.unusedVariables false
set_option linter.unusedSimpArgs false
theorem ctf_nok_own (ps : List (Int × Int)) (hz : ps.length ≤ 9223372036854775807) :
    AC Tryz.prog 59 1 ([sV 0 ps.length, .func (.func 60) #[] #[]]) [(0, (pB ps))] (.bool (ps.any Sp.nok)) [(0, (pB ps))] := by
  refine ac_in Tryz.func59 (fun w0 W pin => ?_)
  refine aw_p 3 (
    .a 1 1 <| .nil _ _) ?_
  refine aw_p 7 (
    .a 2 1 <| .p (cS #[.tmp 5, .tmp 6] #[39, 93] [sV 0 ps.length, .func (.func 60) #[] #[]] [0] [(0, (pB ps))] (.int .i64 (Sp.ixF Sp.nok ps 0)) (ixf_nokn_own ps ps.length (rfl) (by first | omega | decide)) (.cons rS (.cons rF .nil)) ⟨rfl, bP, trivial⟩ rF) <|
    .p (does_b (ps.any Sp.nok) (Sp.ixF_any _ _)) <| .a 1 1 <| .nil _ _) ?_
  refine aw_rt ?_
  exact en_ret [.bool (ps.any Sp.nok)] (by kernel_rfl)
theorem apart_own (ps : List (Int × Int)) (hz : ps.length ≤ 9223372036854775807) (k i k2 i2 : Nat) (hk : k < ps.length) (hi : i < ps.length) (hk2 : (k + 1) % ps.length = k2) (hi2 : (i + 1) % ps.length = i2) :
    AC Tryz.prog 62 1 ([sV 0 ps.length, .int .i64 ((k : Nat) : Int), .int .i64 ((i : Nat) : Int)]) [(0, (pB ps))] (.bool (Sp.apF ps k k2 i i2)) [(0, (pB ps))] := by
  have hk2l : k2 < ps.length := hk2 ▸ Nat.mod_lt _ (by omega); have hi2l : i2 < ps.length := hi2 ▸ Nat.mod_lt _ (by omega)
  refine ac_in Tryz.func62 (fun w0 W pin => ?_)
  refine aw_p 3 (
    .a 1 1 <| .nil _ _) ?_
  refine aw_p 7 (
    .a 3 1 <| .nil _ _) ?_
  refine aw_d 15 (
    .a 2 1 <| .p (does_indexSlice (t := 39) (x := .tmp 16) (y := .tmp 17) (k := 0) (off := 0) (n := ps.length) (c := 0) (z := 2) (kd := .i64) (j := ((k : Nat) : Int)) (by kernel_rfl) (by kernel_rfl) (by kernel_rfl) (by kernel_rfl) (by kernel_rfl) (by omega) (by omega)) <|
    .p (does_load (t := 28) (x := .tmp 18) (k := 0) (off := (0 + (((k : Nat) : Int)).toNat * 2)) (b := (pB ps)) (v := .agg #[.int .i64 ((ps.getD k (0, 0)).1), .int .i64 ((ps.getD k (0, 0)).2)]) (by kernel_rfl) (by kernel_rfl) (by kernel_rfl) (ldV_pair (j := k) (by kernel_rfl) (by kernel_rfl) (by omega) (by omega))) <|
    .a 2 1 <| .p (does_i (((k : Nat) : Int) + 1) (wrap_i64 (by omega) (by omega)) .i64) <| .a 1 1 <|
    .p (does_int (n' := ((k2 : Nat) : Int)) (does_rem (t := 3) (t2 := 3) (x := .tmp 22) (y := .tmp 23) (k := .i64) (a := (((k : Nat) : Int) + 1)) (b := ((ps.length : Nat) : Int)) (by kernel_rfl) (by kernel_rfl) (by kernel_rfl) (by omega)) ((show (Int.tmod (((k : Nat) : Int) + 1) ((ps.length : Nat) : Int)) = ((k2 : Nat) : Int) from (by rw [← hk2]; exact rfl)))) <|
    .p (does_indexSlice (t := 39) (x := .tmp 20) (y := .tmp 24) (k := 0) (off := 0) (n := ps.length) (c := 0) (z := 2) (kd := .i64) (j := ((k2 : Nat) : Int)) (by kernel_rfl) (by kernel_rfl) (by kernel_rfl) (by kernel_rfl) (by kernel_rfl) (by omega) (by omega)) <|
    .p (does_load (t := 28) (x := .tmp 25) (k := 0) (off := (0 + (((k2 : Nat) : Int)).toNat * 2)) (b := (pB ps)) (v := .agg #[.int .i64 ((ps.getD k2 (0, 0)).1), .int .i64 ((ps.getD k2 (0, 0)).2)]) (by kernel_rfl) (by kernel_rfl) (by kernel_rfl) (ldV_pair (j := k2) (by kernel_rfl) (by kernel_rfl) (by omega) (by omega))) <|
    .a 2 1 <| .p (does_indexSlice (t := 39) (x := .tmp 27) (y := .tmp 28) (k := 0) (off := 0) (n := ps.length) (c := 0) (z := 2) (kd := .i64) (j := ((i : Nat) : Int)) (by kernel_rfl) (by kernel_rfl) (by kernel_rfl) (by kernel_rfl) (by kernel_rfl) (by omega) (by omega)) <|
    .p (does_load (t := 28) (x := .tmp 29) (k := 0) (off := (0 + (((i : Nat) : Int)).toNat * 2)) (b := (pB ps)) (v := .agg #[.int .i64 ((ps.getD i (0, 0)).1), .int .i64 ((ps.getD i (0, 0)).2)]) (by kernel_rfl) (by kernel_rfl) (by kernel_rfl) (ldV_pair (j := i) (by kernel_rfl) (by kernel_rfl) (by omega) (by omega))) <|
    .a 2 1 <| .p (does_i (((i : Nat) : Int) + 1) (wrap_i64 (by omega) (by omega)) .i64) <| .a 1 1 <|
    .p (does_int (n' := ((i2 : Nat) : Int)) (does_rem (t := 3) (t2 := 3) (x := .tmp 33) (y := .tmp 34) (k := .i64) (a := (((i : Nat) : Int) + 1)) (b := ((ps.length : Nat) : Int)) (by kernel_rfl) (by kernel_rfl) (by kernel_rfl) (by omega)) ((show (Int.tmod (((i : Nat) : Int) + 1) ((ps.length : Nat) : Int)) = ((i2 : Nat) : Int) from (by rw [← hi2]; exact rfl)))) <|
    .p (does_indexSlice (t := 39) (x := .tmp 31) (y := .tmp 35) (k := 0) (off := 0) (n := ps.length) (c := 0) (z := 2) (kd := .i64) (j := ((i2 : Nat) : Int)) (by kernel_rfl) (by kernel_rfl) (by kernel_rfl) (by kernel_rfl) (by kernel_rfl) (by omega) (by omega)) <|
    .p (does_load (t := 28) (x := .tmp 36) (k := 0) (off := (0 + (((i2 : Nat) : Int)).toNat * 2)) (b := (pB ps)) (v := .agg #[.int .i64 ((ps.getD i2 (0, 0)).1), .int .i64 ((ps.getD i2 (0, 0)).2)]) (by kernel_rfl) (by kernel_rfl) (by kernel_rfl) (ldV_pair (j := i2) (by kernel_rfl) (by kernel_rfl) (by omega) (by omega))) <|
    .a 8 1 <| .nil _ _) ?_
  refine aw_d 31 (
    .a 1 5 <| .p (does_i (((k : Nat) : Int) + 1) (wrap_i64 (by omega) (by omega)) .i64) <| .a 3 5 <| .p (does_i (((i : Nat) : Int) + 1) (wrap_i64 (by omega) (by omega)) .i64) <| .a 1 5 <|
    .p (does_int (n' := ((i2 : Nat) : Int)) (does_rem (t := 3) (t2 := 3) (x := .tmp 43) (y := .tmp 44) (k := .i64) (a := (((i : Nat) : Int) + 1)) (b := ((ps.length : Nat) : Int)) (by kernel_rfl) (by kernel_rfl) (by kernel_rfl) (by omega)) ((show (Int.tmod (((i : Nat) : Int) + 1) ((ps.length : Nat) : Int)) = ((i2 : Nat) : Int) from (by rw [← hi2]; exact rfl)))) <|
    .a 4 5 <| .nil _ _) ?_
  refine aw_sq 62 63 ?_
  rcases Bool.eq_false_or_eq_true (((((ps.getD k (0, 0)).1) == ((ps.getD k2 (0, 0)).1)) && ((((ps.getD k (0, 0)).2) == ((ps.getD k2 (0, 0)).2)) && true))) with h1 | h1
  · have h1p : ((((ps.getD k (0, 0)).1) = ((ps.getD k2 (0, 0)).1) ∧ ((ps.getD k (0, 0)).2) = ((ps.getD k2 (0, 0)).2))) := by first | (simpa using h1) | (have h1q := h1; simp at h1q; omega) | (have h1q := bx1 h1; simp at h1q; omega)
    refine aw_p 125 (
      .a 2 5 <| .p (does_e true (h1)) <| .a 5 5 <| .nil _ _) ?_
    refine aw_tr 250 ?_
    refine aw_p 501 (
      .a 1 5 <| .nil _ _) ?_
    refine aw_rt ?_
    refine then_ret ?_
    exact en_ret [.bool false] (show (.bool false : Value) = (.bool (Sp.apF ps k k2 i i2)) from (congrArg Value.bool (show false = (Sp.apF ps k k2 i i2) from by (first | exact (Sp.apF_1 (by assumption)).symm | exact (Sp.apF_2 (by assumption) (by assumption)).symm | exact (Sp.apF_3 (by assumption) (by assumption) (by assumption)).symm | exact (Sp.apF_4 (by assumption) (by assumption) (by assumption) (by assumption)).symm | exact (Sp.apF_5 (by assumption) (by assumption) (by assumption) (by assumption)).symm))))
  · have h1p : ¬ ((((ps.getD k (0, 0)).1) = ((ps.getD k2 (0, 0)).1) ∧ ((ps.getD k (0, 0)).2) = ((ps.getD k2 (0, 0)).2))) := by first | (simpa using h1) | (have h1q := h1; simp at h1q; omega) | (have h1q := bx2 h1; simp at h1q; omega)
    refine aw_p 125 (
      .a 2 5 <| .p (does_e false (h1)) <| .a 3 5 <| .p (does_e ((((ps.getD i (0, 0)).1) == ((ps.getD i2 (0, 0)).1)) && ((((ps.getD i (0, 0)).2) == ((ps.getD i2 (0, 0)).2)) && true)) (rfl)) <| .a 1 5 <| .nil _ _) ?_
    refine aw_cd 250 251 ((((ps.getD i (0, 0)).1) == ((ps.getD i2 (0, 0)).1)) && ((((ps.getD i (0, 0)).2) == ((ps.getD i2 (0, 0)).2)) && true)) (fun h2 => ?_) (fun h2 => ?_)
    · have h2p : ((((ps.getD i (0, 0)).1) = ((ps.getD i2 (0, 0)).1) ∧ ((ps.getD i (0, 0)).2) = ((ps.getD i2 (0, 0)).2))) := by first | (simpa using h2) | (have h2q := h2; simp at h2q; omega) | (have h2q := bx1 h2; simp at h2q; omega)
      refine aw_p 501 (
        .a 1 5 <| .nil _ _) ?_
      refine aw_rt ?_
      refine then_ret ?_
      exact en_ret [.bool false] (show (.bool false : Value) = (.bool (Sp.apF ps k k2 i i2)) from (congrArg Value.bool (show false = (Sp.apF ps k k2 i i2) from by (first | exact (Sp.apF_1 (by assumption)).symm | exact (Sp.apF_2 (by assumption) (by assumption)).symm | exact (Sp.apF_3 (by assumption) (by assumption) (by assumption)).symm | exact (Sp.apF_4 (by assumption) (by assumption) (by assumption) (by assumption)).symm | exact (Sp.apF_5 (by assumption) (by assumption) (by assumption) (by assumption)).symm))))
    · have h2p : ¬ ((((ps.getD i (0, 0)).1) = ((ps.getD i2 (0, 0)).1) ∧ ((ps.getD i (0, 0)).2) = ((ps.getD i2 (0, 0)).2))) := by first | (simpa using h2) | (have h2q := h2; simp at h2q; omega) | (have h2q := bx2 h2; simp at h2q; omega)
      refine aw_sk ?_
      refine then_normal ?_
      refine aw_sq 126 127 ?_
      rcases Bool.eq_false_or_eq_true ((((k : Nat) : Int) + 1) == ((i : Nat) : Int)) with h3 | h3
      · have h3p : (((((k : Nat) : Int) + 1) = ((i : Nat) : Int))) := by first | (simpa using h3) | (have h3q := h3; simp at h3q; omega) | (have h3q := bx1 h3; simp at h3q; omega)
        refine aw_p 253 (
          .p (does_b true (h3)) <| .a 3 5 <| .nil _ _) ?_
        refine aw_tr 506 ?_
        refine aw_p 1013 (
          .a 4 5 <| .p (does_c (segmeet_any ((ps.getD k (0, 0)).1) ((ps.getD k (0, 0)).2) ((ps.getD k2 (0, 0)).1) ((ps.getD k2 (0, 0)).2) ((ps.getD i (0, 0)).1) ((ps.getD i (0, 0)).2) ((ps.getD i2 (0, 0)).1) ((ps.getD i2 (0, 0)).2))) <| .a 2 5 <| .nil _ _) ?_
        refine aw_rt ?_
        refine then_ret ?_
        exact en_ret [.bool ((Sp.meetN (Sp.lim 1048576 ((ps.getD k (0, 0)).1)) (Sp.lim 1048576 ((ps.getD k (0, 0)).2)) (Sp.lim 1048576 ((ps.getD k2 (0, 0)).1)) (Sp.lim 1048576 ((ps.getD k2 (0, 0)).2)) (Sp.lim 1048576 ((ps.getD i (0, 0)).1)) (Sp.lim 1048576 ((ps.getD i (0, 0)).2)) (Sp.lim 1048576 ((ps.getD i2 (0, 0)).1)) (Sp.lim 1048576 ((ps.getD i2 (0, 0)).2))) == 1)] (show (.bool ((Sp.meetN (Sp.lim 1048576 ((ps.getD k (0, 0)).1)) (Sp.lim 1048576 ((ps.getD k (0, 0)).2)) (Sp.lim 1048576 ((ps.getD k2 (0, 0)).1)) (Sp.lim 1048576 ((ps.getD k2 (0, 0)).2)) (Sp.lim 1048576 ((ps.getD i (0, 0)).1)) (Sp.lim 1048576 ((ps.getD i (0, 0)).2)) (Sp.lim 1048576 ((ps.getD i2 (0, 0)).1)) (Sp.lim 1048576 ((ps.getD i2 (0, 0)).2))) == 1) : Value) = (.bool (Sp.apF ps k k2 i i2)) from (congrArg Value.bool (show ((Sp.meetN (Sp.lim 1048576 ((ps.getD k (0, 0)).1)) (Sp.lim 1048576 ((ps.getD k (0, 0)).2)) (Sp.lim 1048576 ((ps.getD k2 (0, 0)).1)) (Sp.lim 1048576 ((ps.getD k2 (0, 0)).2)) (Sp.lim 1048576 ((ps.getD i (0, 0)).1)) (Sp.lim 1048576 ((ps.getD i (0, 0)).2)) (Sp.lim 1048576 ((ps.getD i2 (0, 0)).1)) (Sp.lim 1048576 ((ps.getD i2 (0, 0)).2))) == 1) = (Sp.apF ps k k2 i i2) from by (first | exact (Sp.apF_1 (by assumption)).symm | exact (Sp.apF_2 (by assumption) (by assumption)).symm | exact (Sp.apF_3 (by assumption) (by assumption) (by assumption)).symm | exact (Sp.apF_4 (by assumption) (by assumption) (by assumption) (by assumption)).symm | exact (Sp.apF_5 (by assumption) (by assumption) (by assumption) (by assumption)).symm))))
      · have h3p : ¬ (((((k : Nat) : Int) + 1) = ((i : Nat) : Int))) := by first | (simpa using h3) | (have h3q := h3; simp at h3q; omega) | (have h3q := bx2 h3; simp at h3q; omega)
        refine aw_p 253 (
          .p (does_b false (h3)) <| .a 3 5 <| .nil _ _) ?_
        refine aw_cd 506 507 (((i2 : Nat) : Int) == ((k : Nat) : Int)) (fun h4 => ?_) (fun h4 => ?_)
        · have h4p : ((((i2 : Nat) : Int) = ((k : Nat) : Int))) := by first | (simpa using h4) | (have h4q := h4; simp at h4q; omega) | (have h4q := bx1 h4; simp at h4q; omega)
          refine aw_p 1013 (
            .a 4 5 <| .p (does_c (segmeet_any ((ps.getD k (0, 0)).1) ((ps.getD k (0, 0)).2) ((ps.getD k2 (0, 0)).1) ((ps.getD k2 (0, 0)).2) ((ps.getD i (0, 0)).1) ((ps.getD i (0, 0)).2) ((ps.getD i2 (0, 0)).1) ((ps.getD i2 (0, 0)).2))) <| .a 2 5 <| .nil _ _) ?_
          refine aw_rt ?_
          refine then_ret ?_
          exact en_ret [.bool ((Sp.meetN (Sp.lim 1048576 ((ps.getD k (0, 0)).1)) (Sp.lim 1048576 ((ps.getD k (0, 0)).2)) (Sp.lim 1048576 ((ps.getD k2 (0, 0)).1)) (Sp.lim 1048576 ((ps.getD k2 (0, 0)).2)) (Sp.lim 1048576 ((ps.getD i (0, 0)).1)) (Sp.lim 1048576 ((ps.getD i (0, 0)).2)) (Sp.lim 1048576 ((ps.getD i2 (0, 0)).1)) (Sp.lim 1048576 ((ps.getD i2 (0, 0)).2))) == 1)] (show (.bool ((Sp.meetN (Sp.lim 1048576 ((ps.getD k (0, 0)).1)) (Sp.lim 1048576 ((ps.getD k (0, 0)).2)) (Sp.lim 1048576 ((ps.getD k2 (0, 0)).1)) (Sp.lim 1048576 ((ps.getD k2 (0, 0)).2)) (Sp.lim 1048576 ((ps.getD i (0, 0)).1)) (Sp.lim 1048576 ((ps.getD i (0, 0)).2)) (Sp.lim 1048576 ((ps.getD i2 (0, 0)).1)) (Sp.lim 1048576 ((ps.getD i2 (0, 0)).2))) == 1) : Value) = (.bool (Sp.apF ps k k2 i i2)) from (congrArg Value.bool (show ((Sp.meetN (Sp.lim 1048576 ((ps.getD k (0, 0)).1)) (Sp.lim 1048576 ((ps.getD k (0, 0)).2)) (Sp.lim 1048576 ((ps.getD k2 (0, 0)).1)) (Sp.lim 1048576 ((ps.getD k2 (0, 0)).2)) (Sp.lim 1048576 ((ps.getD i (0, 0)).1)) (Sp.lim 1048576 ((ps.getD i (0, 0)).2)) (Sp.lim 1048576 ((ps.getD i2 (0, 0)).1)) (Sp.lim 1048576 ((ps.getD i2 (0, 0)).2))) == 1) = (Sp.apF ps k k2 i i2) from by (first | exact (Sp.apF_1 (by assumption)).symm | exact (Sp.apF_2 (by assumption) (by assumption)).symm | exact (Sp.apF_3 (by assumption) (by assumption) (by assumption)).symm | exact (Sp.apF_4 (by assumption) (by assumption) (by assumption) (by assumption)).symm | exact (Sp.apF_5 (by assumption) (by assumption) (by assumption) (by assumption)).symm))))
        · have h4p : ¬ ((((i2 : Nat) : Int) = ((k : Nat) : Int))) := by first | (simpa using h4) | (have h4q := h4; simp at h4q; omega) | (have h4q := bx2 h4; simp at h4q; omega)
          refine aw_sk ?_
          refine then_normal ?_
          refine aw_p 255 (
            .a 4 5 <| .p (does_c (segmeet_any ((ps.getD k (0, 0)).1) ((ps.getD k (0, 0)).2) ((ps.getD k2 (0, 0)).1) ((ps.getD k2 (0, 0)).2) ((ps.getD i (0, 0)).1) ((ps.getD i (0, 0)).2) ((ps.getD i2 (0, 0)).1) ((ps.getD i2 (0, 0)).2))) <| .a 2 5 <| .nil _ _) ?_
          refine aw_rt ?_
          exact en_ret [.bool ((Sp.meetN (Sp.lim 1048576 ((ps.getD k (0, 0)).1)) (Sp.lim 1048576 ((ps.getD k (0, 0)).2)) (Sp.lim 1048576 ((ps.getD k2 (0, 0)).1)) (Sp.lim 1048576 ((ps.getD k2 (0, 0)).2)) (Sp.lim 1048576 ((ps.getD i (0, 0)).1)) (Sp.lim 1048576 ((ps.getD i (0, 0)).2)) (Sp.lim 1048576 ((ps.getD i2 (0, 0)).1)) (Sp.lim 1048576 ((ps.getD i2 (0, 0)).2))) == 0)] (show (.bool ((Sp.meetN (Sp.lim 1048576 ((ps.getD k (0, 0)).1)) (Sp.lim 1048576 ((ps.getD k (0, 0)).2)) (Sp.lim 1048576 ((ps.getD k2 (0, 0)).1)) (Sp.lim 1048576 ((ps.getD k2 (0, 0)).2)) (Sp.lim 1048576 ((ps.getD i (0, 0)).1)) (Sp.lim 1048576 ((ps.getD i (0, 0)).2)) (Sp.lim 1048576 ((ps.getD i2 (0, 0)).1)) (Sp.lim 1048576 ((ps.getD i2 (0, 0)).2))) == 0) : Value) = (.bool (Sp.apF ps k k2 i i2)) from (congrArg Value.bool (show ((Sp.meetN (Sp.lim 1048576 ((ps.getD k (0, 0)).1)) (Sp.lim 1048576 ((ps.getD k (0, 0)).2)) (Sp.lim 1048576 ((ps.getD k2 (0, 0)).1)) (Sp.lim 1048576 ((ps.getD k2 (0, 0)).2)) (Sp.lim 1048576 ((ps.getD i (0, 0)).1)) (Sp.lim 1048576 ((ps.getD i (0, 0)).2)) (Sp.lim 1048576 ((ps.getD i2 (0, 0)).1)) (Sp.lim 1048576 ((ps.getD i2 (0, 0)).2))) == 0) = (Sp.apF ps k k2 i i2) from by (first | exact (Sp.apF_1 (by assumption)).symm | exact (Sp.apF_2 (by assumption) (by assumption)).symm | exact (Sp.apF_3 (by assumption) (by assumption) (by assumption)).symm | exact (Sp.apF_4 (by assumption) (by assumption) (by assumption) (by assumption)).symm | exact (Sp.apF_5 (by assumption) (by assumption) (by assumption) (by assumption)).symm))))
theorem ctf_nokn_own (ps : List (Int × Int)) (N : Nat) (hN : ps.length = N) (hz : N ≤ 9223372036854775807) : AC Tryz.prog 59 1 [.slice (some ⟨0, 0, none⟩) N 0, .func (.func 60) #[] #[]] [(0, ⟨(ps.flatMap ptc), 28, true, 2⟩)] (.bool (ps.any Sp.nok)) [(0, ⟨(ps.flatMap ptc), 28, true, 2⟩)] := by
  subst hN
  exact ctf_nok_own ps hz
end Go.Proofs.YtndkhgfecnbmnaaGreat.Am

namespace Go.Proofs.YtndkhgfecnbmnaaGreat.Am
open Go Go.Proofs
set_option maxRecDepth 100000
set_option maxHeartbeats 4000000
set_option linter.unusedVariables false
set_option linter.unusedSimpArgs false
theorem chk_own (ps : List (Int × Int)) (hz : ps.length ≤ 9223372036854775807) :
    AC Tryz.prog 34 1 ([sV 0 ps.length]) [(0, (pB ps))] (.int .i64 (Sp.chkF ps)) [(0, (pB ps))] := by
  refine ac_in Tryz.func34 (fun w0 W pin => ?_)
  refine aw_p 3 (
    .a 1 1 <| .nil _ _) ?_
  refine aw_p 7 (
    .a 3 1 <| .nil _ _) ?_
  refine aw_sq 14 15 ?_
  refine aw_bl 0 29 ?_
  refine aw_p 59 (
    .a 3 1 <| .nil _ _) ?_
  refine aw_cd 118 119 (decide (((ps.length : Nat) : Int) > 200)) (fun h1 => ?_) (fun h1 => ?_)
  · have h1p : ((((ps.length : Nat) : Int) > 200)) := by first | (simpa using h1) | (have h1q := h1; simp at h1q; omega) | (have h1q := bx1 h1; simp at h1q; omega)
    refine aw_p 237 (
      .a 1 1 <| .nil _ _) ?_
    refine aw_rt ?_
    refine block_ret ?_
    refine then_ret ?_
    exact en_ret [.int .i64 2] (show (.int .i64 2 : Value) = (.int .i64 (Sp.chkF ps)) from (congrArg (Value.int .i64) (show 2 = (Sp.chkF ps) from by (first | exact (Sp.chk_2 (by assumption)).symm | exact (Sp.chk_3 (by assumption) (by assumption)).symm | exact (Sp.chk_1 (by assumption) (by assumption) (by assumption)).symm | exact (Sp.chk_10 (by assumption) (by assumption) (by assumption) (Sp.allap_no hil hkl hk2 hu2 (by assumption))).symm | exact (Sp.chk_0 (by assumption) (by assumption) (by assumption) hge ha).symm))))
  · have h1p : ¬ ((((ps.length : Nat) : Int) > 200)) := by first | (simpa using h1) | (have h1q := h1; simp at h1q; omega) | (have h1q := bx2 h1; simp at h1q; omega)
    refine aw_p 239 (
      .a 3 1 <| .nil _ _) ?_
    refine aw_cd 478 479 (decide (((ps.length : Nat) : Int) < 3)) (fun h2 => ?_) (fun h2 => ?_)
    · have h2p : ((((ps.length : Nat) : Int) < 3)) := by first | (simpa using h2) | (have h2q := h2; simp at h2q; omega) | (have h2q := bx1 h2; simp at h2q; omega)
      refine aw_p 957 (
        .a 1 1 <| .nil _ _) ?_
      refine aw_rt ?_
      refine block_ret ?_
      refine then_ret ?_
      exact en_ret [.int .i64 3] (show (.int .i64 3 : Value) = (.int .i64 (Sp.chkF ps)) from (congrArg (Value.int .i64) (show 3 = (Sp.chkF ps) from by (first | exact (Sp.chk_2 (by assumption)).symm | exact (Sp.chk_3 (by assumption) (by assumption)).symm | exact (Sp.chk_1 (by assumption) (by assumption) (by assumption)).symm | exact (Sp.chk_10 (by assumption) (by assumption) (by assumption) (Sp.allap_no hil hkl hk2 hu2 (by assumption))).symm | exact (Sp.chk_0 (by assumption) (by assumption) (by assumption) hge ha).symm))))
    · have h2p : ¬ ((((ps.length : Nat) : Int) < 3)) := by first | (simpa using h2) | (have h2q := h2; simp at h2q; omega) | (have h2q := bx2 h2; simp at h2q; omega)
      refine aw_p 959 (
        .a 1 1 <| .p (cS #[.tmp 15, .func 60] #[39, 93] [sV 0 ps.length, .func (.func 60) #[] #[]] [0] [(0, (pB ps))] (.bool (ps.any Sp.nok)) (ctf_nokn_own ps ps.length (rfl) (by first | omega | decide)) (.cons rS (.cons rF .nil)) ⟨rfl, bP, trivial⟩ rF) <| .a 1 1 <| .nil _ _) ?_
      refine aw_cd 1918 1919 (ps.any Sp.nok) (fun h3 => ?_) (fun h3 => ?_)
      · refine aw_p 3837 (
          .a 1 1 <| .nil _ _) ?_
        refine aw_rt ?_
        refine block_ret ?_
        refine then_ret ?_
        exact en_ret [.int .i64 1] (show (.int .i64 1 : Value) = (.int .i64 (Sp.chkF ps)) from (congrArg (Value.int .i64) (show 1 = (Sp.chkF ps) from by (first | exact (Sp.chk_2 (by assumption)).symm | exact (Sp.chk_3 (by assumption) (by assumption)).symm | exact (Sp.chk_1 (by assumption) (by assumption) (by assumption)).symm | exact (Sp.chk_10 (by assumption) (by assumption) (by assumption) (Sp.allap_no hil hkl hk2 hu2 (by assumption))).symm | exact (Sp.chk_0 (by assumption) (by assumption) (by assumption) hge ha).symm))))
      · refine aw_sk ?_
        refine block_normal ?_
        refine then_normal ?_
        refine aw_sq 30 31 ?_
        refine aw_p 61 (
          .a 2 1 <| .nil _ _) ?_
        refine aw_bl 1 123 ?_
        refine aw_lp 247 ?_
        refine al_w [(0, sV 0 ps.length), (17, .int .i64 ((ps.length : Nat) : Int)), (18, .int .i64 ((0 : Nat) : Int))] [(0, (pB ps))] ?_ (hc := (by simp [closedB, valsB, valB, List.all_eq_true, List.mem_flatMap, List.mem_range, List.mem_map, i64v, ptc, flat1]; try (intros; simp [valsB, valB, flat1]); try decide))
        refine al_ind (fun i : Nat => (fun (u : Nat) => mkSt 1 [(0, sV 0 ps.length), (17, .int .i64 ((ps.length : Nat) : Int)), (18, .int .i64 ((u : Nat) : Int))] [(0, (pB ps))]) i) (fun i : Nat => (fun (u : Nat) => (u ≤ ps.length) ∧ (Sp.allap ps u = true)) i) (fun i : Nat => (fun (u : Nat) => ps.length - u) i) (fun i hi1 ih1 => ?_) 0 (show (0 ≤ ps.length) ∧ (Sp.allap ps 0 = true) from ⟨by omega, by rfl⟩)
        obtain ⟨u, hv1⟩ : ∃ z, z = i := ⟨i, rfl⟩; subst hv1
        have hi1' : (u ≤ ps.length) ∧ (Sp.allap ps u = true) := hi1
        obtain ⟨hi, ha⟩ := hi1'
        show AL _ _ _ (mkSt 1 [(0, sV 0 ps.length), (17, .int .i64 ((ps.length : Nat) : Int)), (18, .int .i64 ((u : Nat) : Int))] [(0, (pB ps))]) _
        refine al_round ?_
        refine aw_p 495 (
          .a 1 1 <| .nil _ _) ?_
        refine aw_sq 990 991 ?_
        refine aw_cd 1980 1981 (decide (((u : Nat) : Int) < ((ps.length : Nat) : Int))) (fun h4 => ?_) (fun h4 => ?_)
        · have h4p : ((((u : Nat) : Int) < ((ps.length : Nat) : Int))) := by first | (simpa using h4) | (have h4q := h4; simp at h4q; omega) | (have h4q := bx1 h4; simp at h4q; omega)
          have hil : u < ps.length := by omega
          refine aw_sk ?_
          refine then_normal ?_
          refine aw_sq 1982 1983 ?_
          refine aw_bl 2 3965 ?_
          refine aw_p 7931 (
            .a 2 1 <| .nil _ _) ?_
          refine aw_p 15863 (
            .a 2 1 <| .nil _ _) ?_
          refine aw_bl 3 31727 ?_
          refine aw_lp 63455 ?_
          refine al_w [(0, sV 0 ps.length), (4, .int .i64 ((u : Nat) : Int)), (17, .int .i64 ((ps.length : Nat) : Int)), (18, .int .i64 ((u : Nat) : Int)), (21, .int .i64 ((u : Nat) : Int)), (22, .int .i64 ((0 : Nat) : Int))] [(0, (pB ps))] ?_ (hc := (by simp [closedB, valsB, valB, List.all_eq_true, List.mem_flatMap, List.mem_range, List.mem_map, i64v, ptc, flat1]; try (intros; simp [valsB, valB, flat1]); try decide))
          refine al_ind (fun i : Nat => (fun (k : Nat) => mkSt 1 [(0, sV 0 ps.length), (4, .int .i64 ((u : Nat) : Int)), (17, .int .i64 ((ps.length : Nat) : Int)), (18, .int .i64 ((u : Nat) : Int)), (21, .int .i64 ((u : Nat) : Int)), (22, .int .i64 ((k : Nat) : Int))] [(0, (pB ps))]) i) (fun i : Nat => (fun (k : Nat) => (k ≤ u) ∧ (Sp.apRow ps u k = true)) i) (fun i : Nat => (fun (k : Nat) => u - k) i) (fun i hi2 ih2 => ?_) 0 (show (0 ≤ u) ∧ (Sp.apRow ps u 0 = true) from ⟨by omega, by rfl⟩)
          obtain ⟨k, hv2⟩ : ∃ z, z = i := ⟨i, rfl⟩; subst hv2
          have hi2' : (k ≤ u) ∧ (Sp.apRow ps u k = true) := hi2
          obtain ⟨hk, hb⟩ := hi2'
          show AL _ _ _ (mkSt 1 [(0, sV 0 ps.length), (4, .int .i64 ((u : Nat) : Int)), (17, .int .i64 ((ps.length : Nat) : Int)), (18, .int .i64 ((u : Nat) : Int)), (21, .int .i64 ((u : Nat) : Int)), (22, .int .i64 ((k : Nat) : Int))] [(0, (pB ps))]) _
          refine al_round ?_
          refine aw_p 126911 (
            .a 1 1 <| .nil _ _) ?_
          refine aw_sq 253822 253823 ?_
          refine aw_cd 507644 507645 (decide (((k : Nat) : Int) < ((u : Nat) : Int))) (fun h5 => ?_) (fun h5 => ?_)
          · have h5p : ((((k : Nat) : Int) < ((u : Nat) : Int))) := by first | (simpa using h5) | (have h5q := h5; simp at h5q; omega) | (have h5q := bx1 h5; simp at h5q; omega)
            have hkl : k < u := by omega
            obtain ⟨k2, hk2⟩ : ∃ j, (k + 1) % ps.length = j := ⟨_, rfl⟩; obtain ⟨u2, hu2⟩ : ∃ j, (u + 1) % ps.length = j := ⟨_, rfl⟩
            refine aw_sk ?_
            refine then_normal ?_
            refine aw_sq 507646 507647 ?_
            refine aw_bl 4 1015293 ?_
            refine aw_p 2030587 (
              .a 2 1 <| .nil _ _) ?_
            refine aw_p 4061175 (
              .a 3 1 <|
              .p (cS #[.tmp 25, .tmp 26, .tmp 27] #[39, 3, 3] [sV 0 ps.length, .int .i64 ((k : Nat) : Int), .int .i64 ((u : Nat) : Int)] [0] [(0, (pB ps))] (.bool (Sp.apF ps k k2 u u2)) (apart_own ps hz k u k2 u2 (by omega) (by omega) hk2 hu2) (.cons rS (.cons rF (.cons rF .nil))) ⟨rfl, bP, trivial⟩ rF) <|
              .a 1 1 <| .nil _ _) ?_
            refine aw_cd 8122350 8122351 (!(Sp.apF ps k k2 u u2)) (fun h6 => ?_) (fun h6 => ?_)
            · refine aw_p 16244701 (
                .a 1 1 <| .nil _ _) ?_
              refine aw_rt ?_
              refine block_ret ?_
              refine then_ret ?_
              refine then_ret ?_
              refine block_ret ?_
              refine block_ret ?_
              refine then_ret ?_
              refine then_ret ?_
              refine block_ret ?_
              refine then_ret ?_
              exact en_ret [.int .i64 10] (show (.int .i64 10 : Value) = (.int .i64 (Sp.chkF ps)) from (congrArg (Value.int .i64) (show 10 = (Sp.chkF ps) from by (first | exact (Sp.chk_2 (by assumption)).symm | exact (Sp.chk_3 (by assumption) (by assumption)).symm | exact (Sp.chk_1 (by assumption) (by assumption) (by assumption)).symm | exact (Sp.chk_10 (by assumption) (by assumption) (by assumption) (Sp.allap_no hil hkl hk2 hu2 (by assumption))).symm | exact (Sp.chk_0 (by assumption) (by assumption) (by assumption) hge ha).symm))))
            · refine aw_sk ?_
              refine block_normal ?_
              refine then_normal ?_
              refine aw_p1 (
                .p (does_i (((k : Nat) : Int) + 1) (wrap_i64 (by omega) (by omega)) .i64) <| .a 1 1 <| .nil _ _) ?_
              refine then_normal ?_
              refine al_w [(0, sV 0 ps.length), (4, .int .i64 ((u : Nat) : Int)), (17, .int .i64 ((ps.length : Nat) : Int)), (18, .int .i64 ((u : Nat) : Int)), (21, .int .i64 ((u : Nat) : Int)), (22, .int .i64 (((k + 1) : Nat) : Int))] [(0, (pB ps))] ?_ (hc := (by simp [closedB, valsB, valB, List.all_eq_true, List.mem_flatMap, List.mem_range, List.mem_map, i64v, ptc, flat1]; try (intros; simp [valsB, valB, flat1]); try decide))
              exact ih2 (k + 1) (show ((k + 1) ≤ u) ∧ (Sp.apRow ps u (k + 1) = true) from ⟨by omega, by exact Sp.apRow_next hb hk2 hu2 (by assumption)⟩) (show u - (k + 1) < u - k from by omega)
          · have h5p : ¬ ((((k : Nat) : Int) < ((u : Nat) : Int))) := by first | (simpa using h5) | (have h5q := h5; simp at h5q; omega) | (have h5q := bx2 h5; simp at h5q; omega)
            have hku : k = u := by omega
            refine aw_ex 3 ?_
            refine then_exit ?_
            refine then_exit ?_
            refine block_exit ?_
            refine block_normal ?_
            refine then_normal ?_
            refine aw_p1 (
              .p (does_i (((u : Nat) : Int) + 1) (wrap_i64 (by omega) (by omega)) .i64) <| .a 1 1 <| .nil _ _) ?_
            refine then_normal ?_
            refine al_w [(0, sV 0 ps.length), (17, .int .i64 ((ps.length : Nat) : Int)), (18, .int .i64 (((u + 1) : Nat) : Int))] [(0, (pB ps))] ?_ (hc := (by simp [closedB, valsB, valB, List.all_eq_true, List.mem_flatMap, List.mem_range, List.mem_map, i64v, ptc, flat1]; try (intros; simp [valsB, valB, flat1]); try decide))
            exact ih1 (u + 1) (show ((u + 1) ≤ ps.length) ∧ (Sp.allap ps (u + 1) = true) from ⟨by omega, by exact Sp.allap_next ha hku hb⟩) (show ps.length - (u + 1) < ps.length - u from by omega)
        · have h4p : ¬ ((((u : Nat) : Int) < ((ps.length : Nat) : Int))) := by first | (simpa using h4) | (have h4q := h4; simp at h4q; omega) | (have h4q := bx2 h4; simp at h4q; omega)
          have hge : u = ps.length := by omega
          refine aw_ex 1 ?_
          refine then_exit ?_
          refine then_exit ?_
          refine block_exit ?_
          refine then_normal ?_
          refine aw_p 63 (
            .a 1 1 <| .nil _ _) ?_
          refine aw_rt ?_
          exact en_ret [.int .i64 0] (show (.int .i64 0 : Value) = (.int .i64 (Sp.chkF ps)) from (congrArg (Value.int .i64) (show 0 = (Sp.chkF ps) from by (first | exact (Sp.chk_2 (by assumption)).symm | exact (Sp.chk_3 (by assumption) (by assumption)).symm | exact (Sp.chk_1 (by assumption) (by assumption) (by assumption)).symm | exact (Sp.chk_10 (by assumption) (by assumption) (by assumption) (Sp.allap_no hil hkl hk2 hu2 (by assumption))).symm | exact (Sp.chk_0 (by assumption) (by assumption) (by assumption) hge ha).symm))))
theorem chkn_own (ps : List (Int × Int)) (N : Nat) (hN : ps.length = N) (hz : N ≤ 9223372036854775807) : AC Tryz.prog 34 1 [.slice (some ⟨0, 0, none⟩) N 0] [(0, ⟨(ps.flatMap ptc), 28, true, 2⟩)] (.int .i64 (Sp.chkF ps)) [(0, ⟨(ps.flatMap ptc), 28, true, 2⟩)] := by
  subst hN
  exact chk_own ps hz
end Go.Proofs.YtndkhgfecnbmnaaGreat.Am

namespace Go.Proofs.YtndkhgfecnbmnaaGreat.Am
open Go Go.Proofs
set_option maxRecDepth 100000
set_option maxHeartbeats 4000000
set_option linter.unusedVariables false
set_option linter.unusedSimpArgs false
theorem has_own (ps : List (Int × Int)) (hz : ps.length ≤ 9223372036854775807) (x y : Int) :
    AC Tryz.prog 15 1 ([sV 0 ps.length, .agg #[.int .i64 x, .int .i64 y]]) [(0, (pB ps))] (.int .i64 (Sp.hasF ps (Sp.lim 1048576 x) (Sp.lim 1048576 y) 0 (-1))) [(0, (pB ps))] := by
  have qx := Sp.lim_bd (m := 1048576) (by decide) x; have qy := Sp.lim_bd (m := 1048576) (by decide) y
  refine ac_in Tryz.func15 (fun w0 W pin => ?_)
  refine aw_p 3 (
    .a 2 1 <| .nil _ _) ?_
  refine aw_p 7 (
    .a 1 2 <| .p (does_c (clamp_ok x y)) <| .a 1 2 <| .nil _ _) ?_
  refine aw_p 15 (
    .a 1 2 <| .nil _ _) ?_
  refine aw_sq 30 31 ?_
  refine aw_p 61 (
    .a 3 2 <| .nil _ _) ?_
  refine aw_bl 0 123 ?_
  refine aw_lp 247 ?_
  refine al_w [(0, sV 0 ps.length), (3, .pointer (some ⟨1, 0, none⟩)), (5, .int .i64 (-1)), (12, .int .i64 ((ps.length : Nat) : Int)), (13, .int .i64 ((0 : Nat) : Int))] [(0, (pB ps)), (1, ⟨[.int .i64 (Sp.lim 1048576 x), .int .i64 (Sp.lim 1048576 y)], 28, true, 2⟩)] ?_ (hc := (by simp [closedB, valsB, valB, List.all_eq_true, List.mem_flatMap, List.mem_range, List.mem_map, i64v, ptc, flat1]; try (intros; simp [valsB, valB, flat1]); try decide))
  refine al_ind (fun i : Nat × Int => (fun (i : Nat) (out : Int) => mkSt 1 [(0, sV 0 ps.length), (3, .pointer (some ⟨1, 0, none⟩)), (5, .int .i64 out), (12, .int .i64 ((ps.length : Nat) : Int)), (13, .int .i64 ((i : Nat) : Int))] [(0, (pB ps)), (1, ⟨[.int .i64 (Sp.lim 1048576 x), .int .i64 (Sp.lim 1048576 y)], 28, true, 2⟩)]) i.1 i.2) (fun i : Nat × Int => (fun (i : Nat) (out : Int) => (i ≤ ps.length) ∧ (-1 ≤ out ∧ out ≤ 1) ∧ (Sp.hasF ps (Sp.lim 1048576 x) (Sp.lim 1048576 y) i out = Sp.hasF ps (Sp.lim 1048576 x) (Sp.lim 1048576 y) 0 (-1))) i.1 i.2) (fun i : Nat × Int => (fun (i : Nat) (out : Int) => ps.length - i) i.1 i.2) (fun i hi1 ih1 => ?_) (0, (-1)) (show (0 ≤ ps.length) ∧ (-1 ≤ (-1) ∧ (-1) ≤ 1) ∧ (Sp.hasF ps (Sp.lim 1048576 x) (Sp.lim 1048576 y) 0 (-1) = Sp.hasF ps (Sp.lim 1048576 x) (Sp.lim 1048576 y) 0 (-1)) from ⟨by omega, by omega, by rfl⟩)
  obtain ⟨i, out⟩ := i
  have hi1' : (i ≤ ps.length) ∧ (-1 ≤ out ∧ out ≤ 1) ∧ (Sp.hasF ps (Sp.lim 1048576 x) (Sp.lim 1048576 y) i out = Sp.hasF ps (Sp.lim 1048576 x) (Sp.lim 1048576 y) 0 (-1)) := hi1
  obtain ⟨hi, ho, hh⟩ := hi1'
  show AL _ _ _ (mkSt 1 [(0, sV 0 ps.length), (3, .pointer (some ⟨1, 0, none⟩)), (5, .int .i64 out), (12, .int .i64 ((ps.length : Nat) : Int)), (13, .int .i64 ((i : Nat) : Int))] [(0, (pB ps)), (1, ⟨[.int .i64 (Sp.lim 1048576 x), .int .i64 (Sp.lim 1048576 y)], 28, true, 2⟩)]) _
  refine al_round ?_
  refine aw_p 495 (
    .a 1 2 <| .nil _ _) ?_
  refine aw_sq 990 991 ?_
  refine aw_cd 1980 1981 (decide (((i : Nat) : Int) < ((ps.length : Nat) : Int))) (fun h1 => ?_) (fun h1 => ?_)
  · have h1p : ((((i : Nat) : Int) < ((ps.length : Nat) : Int))) := by first | (simpa using h1) | (have h1q := h1; simp at h1q; omega) | (have h1q := bx1 h1; simp at h1q; omega)
    have hil : i < ps.length := by omega
    obtain ⟨j, hj⟩ : ∃ j, (i + 1) % ps.length = j := ⟨_, rfl⟩
    have hjl : j < ps.length := hj ▸ Nat.mod_lt _ (by omega)
    have bi1 := Sp.lim_bd (m := 1048576) (by decide) (ps.getD i (0, 0)).1; have bi2 := Sp.lim_bd (m := 1048576) (by decide) (ps.getD i (0, 0)).2; have bj1 := Sp.lim_bd (m := 1048576) (by decide) (ps.getD j (0, 0)).1; have bj2 := Sp.lim_bd (m := 1048576) (by decide) (ps.getD j (0, 0)).2
    refine aw_sk ?_
    refine then_normal ?_
    refine aw_sq 1982 1983 ?_
    refine aw_bl 1 3965 ?_
    refine aw_p 7931 (
      .a 2 2 <| .nil _ _) ?_
    refine aw_d 15863 (
      .a 2 2 <| .p (does_indexSlice (t := 39) (x := .tmp 16) (y := .tmp 17) (k := 0) (off := 0) (n := ps.length) (c := 0) (z := 2) (kd := .i64) (j := ((i : Nat) : Int)) (by kernel_rfl) (by kernel_rfl) (by kernel_rfl) (by kernel_rfl) (by kernel_rfl) (by omega) (by omega)) <|
      .p (does_load (t := 28) (x := .tmp 18) (k := 0) (off := (0 + (((i : Nat) : Int)).toNat * 2)) (b := (pB ps)) (v := .agg #[.int .i64 ((ps.getD i (0, 0)).1), .int .i64 ((ps.getD i (0, 0)).2)]) (by kernel_rfl) (by kernel_rfl) (by kernel_rfl) (ldV_pair (j := i) (by kernel_rfl) (by kernel_rfl) (by omega) (by omega))) <|
      .p (does_c (clamp_ok ((ps.getD i (0, 0)).1) ((ps.getD i (0, 0)).2))) <| .a 2 2 <| .p (does_i (((i : Nat) : Int) + 1) (wrap_i64 (by omega) (by omega)) .i64) <| .a 2 2 <|
      .p (does_int (n' := ((j : Nat) : Int)) (does_rem (t := 3) (t2 := 3) (x := .tmp 23) (y := .tmp 25) (k := .i64) (a := (((i : Nat) : Int) + 1)) (b := ((ps.length : Nat) : Int)) (by kernel_rfl) (by kernel_rfl) (by kernel_rfl) (by omega)) ((show (Int.tmod (((i : Nat) : Int) + 1) ((ps.length : Nat) : Int)) = ((j : Nat) : Int) from (by rw [← hj]; exact rfl)))) <|
      .p (does_indexSlice (t := 39) (x := .tmp 21) (y := .tmp 26) (k := 0) (off := 0) (n := ps.length) (c := 0) (z := 2) (kd := .i64) (j := ((j : Nat) : Int)) (by kernel_rfl) (by kernel_rfl) (by kernel_rfl) (by kernel_rfl) (by kernel_rfl) (by omega) (by omega)) <|
      .p (does_load (t := 28) (x := .tmp 27) (k := 0) (off := (0 + (((j : Nat) : Int)).toNat * 2)) (b := (pB ps)) (v := .agg #[.int .i64 ((ps.getD j (0, 0)).1), .int .i64 ((ps.getD j (0, 0)).2)]) (by kernel_rfl) (by kernel_rfl) (by kernel_rfl) (ldV_pair (j := j) (by kernel_rfl) (by kernel_rfl) (by omega) (by omega))) <|
      .p (does_c (clamp_ok ((ps.getD j (0, 0)).1) ((ps.getD j (0, 0)).2))) <| .a 4 2 <| .nil _ _) ?_
    refine aw_sq 31726 31727 ?_
    refine aw_p 63453 (
      .a 3 4 <|
      .p (does_c (on_in (Sp.lim 1048576 ((ps.getD i (0, 0)).1)) (Sp.lim 1048576 ((ps.getD i (0, 0)).2)) (Sp.lim 1048576 ((ps.getD j (0, 0)).1)) (Sp.lim 1048576 ((ps.getD j (0, 0)).2)) (Sp.lim 1048576 x) (Sp.lim 1048576 y) (by omega) (by omega) (by omega) (by omega) (by omega) (by omega) (by omega) (by omega) (by omega) (by omega) (by omega) (by omega))) <| .nil _ _) ?_
    refine aw_cd 126906 126907 (Sp.onb (Sp.lim 1048576 ((ps.getD i (0, 0)).1)) (Sp.lim 1048576 ((ps.getD i (0, 0)).2)) (Sp.lim 1048576 ((ps.getD j (0, 0)).1)) (Sp.lim 1048576 ((ps.getD j (0, 0)).2)) (Sp.lim 1048576 x) (Sp.lim 1048576 y)) (fun h2 => ?_) (fun h2 => ?_)
    · refine aw_p 253813 (
        .a 1 4 <| .nil _ _) ?_
      refine aw_rt ?_
      refine then_ret ?_
      refine block_ret ?_
      refine then_ret ?_
      refine then_ret ?_
      refine block_ret ?_
      refine then_ret ?_
      exact en_ret [.int .i64 0] (show (.int .i64 0 : Value) = (.int .i64 (Sp.hasF ps (Sp.lim 1048576 x) (Sp.lim 1048576 y) 0 (-1))) from (congrArg (Value.int .i64) (show 0 = (Sp.hasF ps (Sp.lim 1048576 x) (Sp.lim 1048576 y) 0 (-1)) from by (first | exact (by rw [← hh, Sp.hasF_on hil hj (by assumption)]) | exact (by rw [← hh, Sp.hasF_end hge])))))
    · refine aw_sk ?_
      refine then_normal ?_
      refine aw_sq 63454 63455 ?_
      refine aw_p 126909 (
        .a 5 4 <| .nil _ _) ?_
      refine aw_cd 253818 253819 (decide ((Sp.lim 1048576 ((ps.getD i (0, 0)).2)) > (Sp.lim 1048576 ((ps.getD j (0, 0)).2)))) (fun h3 => ?_) (fun h3 => ?_)
      · have h3p : (((Sp.lim 1048576 ((ps.getD i (0, 0)).2)) > (Sp.lim 1048576 ((ps.getD j (0, 0)).2)))) := by first | (simpa using h3) | (have h3q := h3; simp at h3q; omega) | (have h3q := bx1 h3; simp at h3q; omega)
        refine aw_p1 (
          .a 4 4 <| .nil _ _) ?_
        refine then_normal ?_
        rcases Bool.eq_false_or_eq_true (decide ((Sp.lim 1048576 ((ps.getD j (0, 0)).2)) < (Sp.lim 1048576 y))) with h4 | h4
        · have h4p : (((Sp.lim 1048576 ((ps.getD j (0, 0)).2)) < (Sp.lim 1048576 y))) := by first | (simpa using h4) | (have h4q := h4; simp at h4q; omega) | (have h4q := bx1 h4; simp at h4q; omega)
          rcases Bool.eq_false_or_eq_true (decide ((Sp.lim 1048576 y) ≤ (Sp.lim 1048576 ((ps.getD i (0, 0)).2)))) with h5 | h5
          · have h5p : (((Sp.lim 1048576 y) ≤ (Sp.lim 1048576 ((ps.getD i (0, 0)).2)))) := by first | (simpa using h5) | (have h5q := h5; simp at h5q; omega) | (have h5q := bx1 h5; simp at h5q; omega)
            refine aw_p 126911 (
              .a 4 4 <| .p (does_b true (h4)) <| .a 5 4 <| .p (does_b true (h5)) <| .a 5 4 <|
              .p (does_c (turn_in (Sp.lim 1048576 ((ps.getD j (0, 0)).1)) (Sp.lim 1048576 ((ps.getD j (0, 0)).2)) (Sp.lim 1048576 ((ps.getD i (0, 0)).1)) (Sp.lim 1048576 ((ps.getD i (0, 0)).2)) (Sp.lim 1048576 x) (Sp.lim 1048576 y) (by omega) (by omega) (by omega) (by omega) (by omega) (by omega) (by omega) (by omega) (by omega) (by omega) (by omega) (by omega))) <|
              .a 2 4 <| .nil _ _) ?_
            refine aw_cd 253822 253823 (decide ((Sp.cmp (Sp.crs (Sp.lim 1048576 ((ps.getD j (0, 0)).1)) (Sp.lim 1048576 ((ps.getD j (0, 0)).2)) (Sp.lim 1048576 ((ps.getD i (0, 0)).1)) (Sp.lim 1048576 ((ps.getD i (0, 0)).2)) (Sp.lim 1048576 x) (Sp.lim 1048576 y)) 0) > 0)) (fun h6 => ?_) (fun h6 => ?_)
            · have h6p : (((Sp.cmp (Sp.crs (Sp.lim 1048576 ((ps.getD j (0, 0)).1)) (Sp.lim 1048576 ((ps.getD j (0, 0)).2)) (Sp.lim 1048576 ((ps.getD i (0, 0)).1)) (Sp.lim 1048576 ((ps.getD i (0, 0)).2)) (Sp.lim 1048576 x) (Sp.lim 1048576 y)) 0) > 0)) := by first | (simpa using h6) | (have h6q := h6; simp at h6q; omega) | (have h6q := bx1 h6; simp at h6q; omega)
              refine aw_p1 (
                .a 1 4 <| .p (does_i (0 - out) (wrap_i64 (by omega) (by omega)) .i64) <| .a 1 4 <| .nil _ _) ?_
              refine block_normal ?_
              refine then_normal ?_
              refine aw_p1 (
                .p (does_i (((i : Nat) : Int) + 1) (wrap_i64 (by omega) (by omega)) .i64) <| .a 1 4 <| .nil _ _) ?_
              refine then_normal ?_
              refine al_w [(0, sV 0 ps.length), (3, .pointer (some ⟨1, 0, none⟩)), (5, .int .i64 (0 - out)), (12, .int .i64 ((ps.length : Nat) : Int)), (13, .int .i64 (((i + 1) : Nat) : Int))] [(0, (pB ps)), (1, ⟨[.int .i64 (Sp.lim 1048576 x), .int .i64 (Sp.lim 1048576 y)], 28, true, 2⟩)] ?_ (hc := (by simp [closedB, valsB, valB, List.all_eq_true, List.mem_flatMap, List.mem_range, List.mem_map, i64v, ptc, flat1]; try (intros; simp [valsB, valB, flat1]); try decide))
              exact ih1 ((i + 1), (0 - out)) (show ((i + 1) ≤ ps.length) ∧ (-1 ≤ (0 - out) ∧ (0 - out) ≤ 1) ∧ (Sp.hasF ps (Sp.lim 1048576 x) (Sp.lim 1048576 y) (i + 1) (0 - out) = Sp.hasF ps (Sp.lim 1048576 x) (Sp.lim 1048576 y) 0 (-1)) from ⟨by omega, by omega, by (rw [← hh]; first | exact Sp.hasF_no hil hj (by assumption) (Sp.crX_d1 (by assumption) (by assumption)) | exact Sp.hasF_no hil hj (by assumption) (Sp.crX_d2 (by assumption) (by assumption) (by assumption)) | exact Sp.hasF_no hil hj (by assumption) (Sp.crX_d3 (by assumption) (by assumption) (by assumption) (by assumption)) | exact Sp.hasF_cr hil hj (by assumption) (Sp.crX_d4 (by assumption) (by assumption) (by assumption) (by assumption)) | exact Sp.hasF_no hil hj (by assumption) (Sp.crX_u1 (by assumption) (by assumption)) | exact Sp.hasF_no hil hj (by assumption) (Sp.crX_u2 (by assumption) (by assumption) (by assumption)) | exact Sp.hasF_no hil hj (by assumption) (Sp.crX_u3 (by assumption) (by assumption) (by assumption) (by assumption)) | exact Sp.hasF_cr hil hj (by assumption) (Sp.crX_u4 (by assumption) (by assumption) (by assumption) (by assumption)))⟩) (show ps.length - (i + 1) < ps.length - i from by omega)
            · have h6p : ¬ (((Sp.cmp (Sp.crs (Sp.lim 1048576 ((ps.getD j (0, 0)).1)) (Sp.lim 1048576 ((ps.getD j (0, 0)).2)) (Sp.lim 1048576 ((ps.getD i (0, 0)).1)) (Sp.lim 1048576 ((ps.getD i (0, 0)).2)) (Sp.lim 1048576 x) (Sp.lim 1048576 y)) 0) > 0)) := by first | (simpa using h6) | (have h6q := h6; simp at h6q; omega) | (have h6q := bx2 h6; simp at h6q; omega)
              refine aw_sk ?_
              refine block_normal ?_
              refine then_normal ?_
              refine aw_p1 (
                .p (does_i (((i : Nat) : Int) + 1) (wrap_i64 (by omega) (by omega)) .i64) <| .a 1 4 <| .nil _ _) ?_
              refine then_normal ?_
              refine al_w [(0, sV 0 ps.length), (3, .pointer (some ⟨1, 0, none⟩)), (5, .int .i64 out), (12, .int .i64 ((ps.length : Nat) : Int)), (13, .int .i64 (((i + 1) : Nat) : Int))] [(0, (pB ps)), (1, ⟨[.int .i64 (Sp.lim 1048576 x), .int .i64 (Sp.lim 1048576 y)], 28, true, 2⟩)] ?_ (hc := (by simp [closedB, valsB, valB, List.all_eq_true, List.mem_flatMap, List.mem_range, List.mem_map, i64v, ptc, flat1]; try (intros; simp [valsB, valB, flat1]); try decide))
              exact ih1 ((i + 1), out) (show ((i + 1) ≤ ps.length) ∧ (-1 ≤ out ∧ out ≤ 1) ∧ (Sp.hasF ps (Sp.lim 1048576 x) (Sp.lim 1048576 y) (i + 1) out = Sp.hasF ps (Sp.lim 1048576 x) (Sp.lim 1048576 y) 0 (-1)) from ⟨by omega, by omega, by (rw [← hh]; first | exact Sp.hasF_no hil hj (by assumption) (Sp.crX_d1 (by assumption) (by assumption)) | exact Sp.hasF_no hil hj (by assumption) (Sp.crX_d2 (by assumption) (by assumption) (by assumption)) | exact Sp.hasF_no hil hj (by assumption) (Sp.crX_d3 (by assumption) (by assumption) (by assumption) (by assumption)) | exact Sp.hasF_cr hil hj (by assumption) (Sp.crX_d4 (by assumption) (by assumption) (by assumption) (by assumption)) | exact Sp.hasF_no hil hj (by assumption) (Sp.crX_u1 (by assumption) (by assumption)) | exact Sp.hasF_no hil hj (by assumption) (Sp.crX_u2 (by assumption) (by assumption) (by assumption)) | exact Sp.hasF_no hil hj (by assumption) (Sp.crX_u3 (by assumption) (by assumption) (by assumption) (by assumption)) | exact Sp.hasF_cr hil hj (by assumption) (Sp.crX_u4 (by assumption) (by assumption) (by assumption) (by assumption)))⟩) (show ps.length - (i + 1) < ps.length - i from by omega)
          · have h5p : ¬ (((Sp.lim 1048576 y) ≤ (Sp.lim 1048576 ((ps.getD i (0, 0)).2)))) := by first | (simpa using h5) | (have h5q := h5; simp at h5q; omega) | (have h5q := bx2 h5; simp at h5q; omega)
            refine aw_p 126911 (
              .a 4 4 <| .p (does_b true (h4)) <| .a 5 4 <| .p (does_b false (h5)) <| .a 8 4 <| .nil _ _) ?_
            refine aw_fl 253823 ?_
            refine aw_sk ?_
            refine block_normal ?_
            refine then_normal ?_
            refine aw_p1 (
              .p (does_i (((i : Nat) : Int) + 1) (wrap_i64 (by omega) (by omega)) .i64) <| .a 1 4 <| .nil _ _) ?_
            refine then_normal ?_
            refine al_w [(0, sV 0 ps.length), (3, .pointer (some ⟨1, 0, none⟩)), (5, .int .i64 out), (12, .int .i64 ((ps.length : Nat) : Int)), (13, .int .i64 (((i + 1) : Nat) : Int))] [(0, (pB ps)), (1, ⟨[.int .i64 (Sp.lim 1048576 x), .int .i64 (Sp.lim 1048576 y)], 28, true, 2⟩)] ?_ (hc := (by simp [closedB, valsB, valB, List.all_eq_true, List.mem_flatMap, List.mem_range, List.mem_map, i64v, ptc, flat1]; try (intros; simp [valsB, valB, flat1]); try decide))
            exact ih1 ((i + 1), out) (show ((i + 1) ≤ ps.length) ∧ (-1 ≤ out ∧ out ≤ 1) ∧ (Sp.hasF ps (Sp.lim 1048576 x) (Sp.lim 1048576 y) (i + 1) out = Sp.hasF ps (Sp.lim 1048576 x) (Sp.lim 1048576 y) 0 (-1)) from ⟨by omega, by omega, by (rw [← hh]; first | exact Sp.hasF_no hil hj (by assumption) (Sp.crX_d1 (by assumption) (by assumption)) | exact Sp.hasF_no hil hj (by assumption) (Sp.crX_d2 (by assumption) (by assumption) (by assumption)) | exact Sp.hasF_no hil hj (by assumption) (Sp.crX_d3 (by assumption) (by assumption) (by assumption) (by assumption)) | exact Sp.hasF_cr hil hj (by assumption) (Sp.crX_d4 (by assumption) (by assumption) (by assumption) (by assumption)) | exact Sp.hasF_no hil hj (by assumption) (Sp.crX_u1 (by assumption) (by assumption)) | exact Sp.hasF_no hil hj (by assumption) (Sp.crX_u2 (by assumption) (by assumption) (by assumption)) | exact Sp.hasF_no hil hj (by assumption) (Sp.crX_u3 (by assumption) (by assumption) (by assumption) (by assumption)) | exact Sp.hasF_cr hil hj (by assumption) (Sp.crX_u4 (by assumption) (by assumption) (by assumption) (by assumption)))⟩) (show ps.length - (i + 1) < ps.length - i from by omega)
        · have h4p : ¬ (((Sp.lim 1048576 ((ps.getD j (0, 0)).2)) < (Sp.lim 1048576 y))) := by first | (simpa using h4) | (have h4q := h4; simp at h4q; omega) | (have h4q := bx2 h4; simp at h4q; omega)
          refine aw_p 126911 (
            .a 4 4 <| .p (does_b false (h4)) <| .a 14 4 <| .nil _ _) ?_
          refine aw_fl 253823 ?_
          refine aw_sk ?_
          refine block_normal ?_
          refine then_normal ?_
          refine aw_p1 (
            .p (does_i (((i : Nat) : Int) + 1) (wrap_i64 (by omega) (by omega)) .i64) <| .a 1 4 <| .nil _ _) ?_
          refine then_normal ?_
          refine al_w [(0, sV 0 ps.length), (3, .pointer (some ⟨1, 0, none⟩)), (5, .int .i64 out), (12, .int .i64 ((ps.length : Nat) : Int)), (13, .int .i64 (((i + 1) : Nat) : Int))] [(0, (pB ps)), (1, ⟨[.int .i64 (Sp.lim 1048576 x), .int .i64 (Sp.lim 1048576 y)], 28, true, 2⟩)] ?_ (hc := (by simp [closedB, valsB, valB, List.all_eq_true, List.mem_flatMap, List.mem_range, List.mem_map, i64v, ptc, flat1]; try (intros; simp [valsB, valB, flat1]); try decide))
          exact ih1 ((i + 1), out) (show ((i + 1) ≤ ps.length) ∧ (-1 ≤ out ∧ out ≤ 1) ∧ (Sp.hasF ps (Sp.lim 1048576 x) (Sp.lim 1048576 y) (i + 1) out = Sp.hasF ps (Sp.lim 1048576 x) (Sp.lim 1048576 y) 0 (-1)) from ⟨by omega, by omega, by (rw [← hh]; first | exact Sp.hasF_no hil hj (by assumption) (Sp.crX_d1 (by assumption) (by assumption)) | exact Sp.hasF_no hil hj (by assumption) (Sp.crX_d2 (by assumption) (by assumption) (by assumption)) | exact Sp.hasF_no hil hj (by assumption) (Sp.crX_d3 (by assumption) (by assumption) (by assumption) (by assumption)) | exact Sp.hasF_cr hil hj (by assumption) (Sp.crX_d4 (by assumption) (by assumption) (by assumption) (by assumption)) | exact Sp.hasF_no hil hj (by assumption) (Sp.crX_u1 (by assumption) (by assumption)) | exact Sp.hasF_no hil hj (by assumption) (Sp.crX_u2 (by assumption) (by assumption) (by assumption)) | exact Sp.hasF_no hil hj (by assumption) (Sp.crX_u3 (by assumption) (by assumption) (by assumption) (by assumption)) | exact Sp.hasF_cr hil hj (by assumption) (Sp.crX_u4 (by assumption) (by assumption) (by assumption) (by assumption)))⟩) (show ps.length - (i + 1) < ps.length - i from by omega)
      · have h3p : ¬ (((Sp.lim 1048576 ((ps.getD i (0, 0)).2)) > (Sp.lim 1048576 ((ps.getD j (0, 0)).2)))) := by first | (simpa using h3) | (have h3q := h3; simp at h3q; omega) | (have h3q := bx2 h3; simp at h3q; omega)
        refine aw_sk ?_
        refine then_normal ?_
        rcases Bool.eq_false_or_eq_true (decide ((Sp.lim 1048576 ((ps.getD i (0, 0)).2)) < (Sp.lim 1048576 y))) with h7 | h7
        · have h7p : (((Sp.lim 1048576 ((ps.getD i (0, 0)).2)) < (Sp.lim 1048576 y))) := by first | (simpa using h7) | (have h7q := h7; simp at h7q; omega) | (have h7q := bx1 h7; simp at h7q; omega)
          rcases Bool.eq_false_or_eq_true (decide ((Sp.lim 1048576 y) ≤ (Sp.lim 1048576 ((ps.getD j (0, 0)).2)))) with h8 | h8
          · have h8p : (((Sp.lim 1048576 y) ≤ (Sp.lim 1048576 ((ps.getD j (0, 0)).2)))) := by first | (simpa using h8) | (have h8q := h8; simp at h8q; omega) | (have h8q := bx1 h8; simp at h8q; omega)
            refine aw_p 126911 (
              .a 4 4 <| .p (does_b true (h7)) <| .a 5 4 <| .p (does_b true (h8)) <| .a 5 4 <|
              .p (does_c (turn_in (Sp.lim 1048576 ((ps.getD i (0, 0)).1)) (Sp.lim 1048576 ((ps.getD i (0, 0)).2)) (Sp.lim 1048576 ((ps.getD j (0, 0)).1)) (Sp.lim 1048576 ((ps.getD j (0, 0)).2)) (Sp.lim 1048576 x) (Sp.lim 1048576 y) (by omega) (by omega) (by omega) (by omega) (by omega) (by omega) (by omega) (by omega) (by omega) (by omega) (by omega) (by omega))) <|
              .a 2 4 <| .nil _ _) ?_
            refine aw_cd 253822 253823 (decide ((Sp.cmp (Sp.crs (Sp.lim 1048576 ((ps.getD i (0, 0)).1)) (Sp.lim 1048576 ((ps.getD i (0, 0)).2)) (Sp.lim 1048576 ((ps.getD j (0, 0)).1)) (Sp.lim 1048576 ((ps.getD j (0, 0)).2)) (Sp.lim 1048576 x) (Sp.lim 1048576 y)) 0) > 0)) (fun h9 => ?_) (fun h9 => ?_)
            · have h9p : (((Sp.cmp (Sp.crs (Sp.lim 1048576 ((ps.getD i (0, 0)).1)) (Sp.lim 1048576 ((ps.getD i (0, 0)).2)) (Sp.lim 1048576 ((ps.getD j (0, 0)).1)) (Sp.lim 1048576 ((ps.getD j (0, 0)).2)) (Sp.lim 1048576 x) (Sp.lim 1048576 y)) 0) > 0)) := by first | (simpa using h9) | (have h9q := h9; simp at h9q; omega) | (have h9q := bx1 h9; simp at h9q; omega)
              refine aw_p1 (
                .a 1 4 <| .p (does_i (0 - out) (wrap_i64 (by omega) (by omega)) .i64) <| .a 1 4 <| .nil _ _) ?_
              refine block_normal ?_
              refine then_normal ?_
              refine aw_p1 (
                .p (does_i (((i : Nat) : Int) + 1) (wrap_i64 (by omega) (by omega)) .i64) <| .a 1 4 <| .nil _ _) ?_
              refine then_normal ?_
              refine al_w [(0, sV 0 ps.length), (3, .pointer (some ⟨1, 0, none⟩)), (5, .int .i64 (0 - out)), (12, .int .i64 ((ps.length : Nat) : Int)), (13, .int .i64 (((i + 1) : Nat) : Int))] [(0, (pB ps)), (1, ⟨[.int .i64 (Sp.lim 1048576 x), .int .i64 (Sp.lim 1048576 y)], 28, true, 2⟩)] ?_ (hc := (by simp [closedB, valsB, valB, List.all_eq_true, List.mem_flatMap, List.mem_range, List.mem_map, i64v, ptc, flat1]; try (intros; simp [valsB, valB, flat1]); try decide))
              exact ih1 ((i + 1), (0 - out)) (show ((i + 1) ≤ ps.length) ∧ (-1 ≤ (0 - out) ∧ (0 - out) ≤ 1) ∧ (Sp.hasF ps (Sp.lim 1048576 x) (Sp.lim 1048576 y) (i + 1) (0 - out) = Sp.hasF ps (Sp.lim 1048576 x) (Sp.lim 1048576 y) 0 (-1)) from ⟨by omega, by omega, by (rw [← hh]; first | exact Sp.hasF_no hil hj (by assumption) (Sp.crX_d1 (by assumption) (by assumption)) | exact Sp.hasF_no hil hj (by assumption) (Sp.crX_d2 (by assumption) (by assumption) (by assumption)) | exact Sp.hasF_no hil hj (by assumption) (Sp.crX_d3 (by assumption) (by assumption) (by assumption) (by assumption)) | exact Sp.hasF_cr hil hj (by assumption) (Sp.crX_d4 (by assumption) (by assumption) (by assumption) (by assumption)) | exact Sp.hasF_no hil hj (by assumption) (Sp.crX_u1 (by assumption) (by assumption)) | exact Sp.hasF_no hil hj (by assumption) (Sp.crX_u2 (by assumption) (by assumption) (by assumption)) | exact Sp.hasF_no hil hj (by assumption) (Sp.crX_u3 (by assumption) (by assumption) (by assumption) (by assumption)) | exact Sp.hasF_cr hil hj (by assumption) (Sp.crX_u4 (by assumption) (by assumption) (by assumption) (by assumption)))⟩) (show ps.length - (i + 1) < ps.length - i from by omega)
            · have h9p : ¬ (((Sp.cmp (Sp.crs (Sp.lim 1048576 ((ps.getD i (0, 0)).1)) (Sp.lim 1048576 ((ps.getD i (0, 0)).2)) (Sp.lim 1048576 ((ps.getD j (0, 0)).1)) (Sp.lim 1048576 ((ps.getD j (0, 0)).2)) (Sp.lim 1048576 x) (Sp.lim 1048576 y)) 0) > 0)) := by first | (simpa using h9) | (have h9q := h9; simp at h9q; omega) | (have h9q := bx2 h9; simp at h9q; omega)
              refine aw_sk ?_
              refine block_normal ?_
              refine then_normal ?_
              refine aw_p1 (
                .p (does_i (((i : Nat) : Int) + 1) (wrap_i64 (by omega) (by omega)) .i64) <| .a 1 4 <| .nil _ _) ?_
              refine then_normal ?_
              refine al_w [(0, sV 0 ps.length), (3, .pointer (some ⟨1, 0, none⟩)), (5, .int .i64 out), (12, .int .i64 ((ps.length : Nat) : Int)), (13, .int .i64 (((i + 1) : Nat) : Int))] [(0, (pB ps)), (1, ⟨[.int .i64 (Sp.lim 1048576 x), .int .i64 (Sp.lim 1048576 y)], 28, true, 2⟩)] ?_ (hc := (by simp [closedB, valsB, valB, List.all_eq_true, List.mem_flatMap, List.mem_range, List.mem_map, i64v, ptc, flat1]; try (intros; simp [valsB, valB, flat1]); try decide))
              exact ih1 ((i + 1), out) (show ((i + 1) ≤ ps.length) ∧ (-1 ≤ out ∧ out ≤ 1) ∧ (Sp.hasF ps (Sp.lim 1048576 x) (Sp.lim 1048576 y) (i + 1) out = Sp.hasF ps (Sp.lim 1048576 x) (Sp.lim 1048576 y) 0 (-1)) from ⟨by omega, by omega, by (rw [← hh]; first | exact Sp.hasF_no hil hj (by assumption) (Sp.crX_d1 (by assumption) (by assumption)) | exact Sp.hasF_no hil hj (by assumption) (Sp.crX_d2 (by assumption) (by assumption) (by assumption)) | exact Sp.hasF_no hil hj (by assumption) (Sp.crX_d3 (by assumption) (by assumption) (by assumption) (by assumption)) | exact Sp.hasF_cr hil hj (by assumption) (Sp.crX_d4 (by assumption) (by assumption) (by assumption) (by assumption)) | exact Sp.hasF_no hil hj (by assumption) (Sp.crX_u1 (by assumption) (by assumption)) | exact Sp.hasF_no hil hj (by assumption) (Sp.crX_u2 (by assumption) (by assumption) (by assumption)) | exact Sp.hasF_no hil hj (by assumption) (Sp.crX_u3 (by assumption) (by assumption) (by assumption) (by assumption)) | exact Sp.hasF_cr hil hj (by assumption) (Sp.crX_u4 (by assumption) (by assumption) (by assumption) (by assumption)))⟩) (show ps.length - (i + 1) < ps.length - i from by omega)
          · have h8p : ¬ (((Sp.lim 1048576 y) ≤ (Sp.lim 1048576 ((ps.getD j (0, 0)).2)))) := by first | (simpa using h8) | (have h8q := h8; simp at h8q; omega) | (have h8q := bx2 h8; simp at h8q; omega)
            refine aw_p 126911 (
              .a 4 4 <| .p (does_b true (h7)) <| .a 5 4 <| .p (does_b false (h8)) <| .a 8 4 <| .nil _ _) ?_
            refine aw_fl 253823 ?_
            refine aw_sk ?_
            refine block_normal ?_
            refine then_normal ?_
            refine aw_p1 (
              .p (does_i (((i : Nat) : Int) + 1) (wrap_i64 (by omega) (by omega)) .i64) <| .a 1 4 <| .nil _ _) ?_
            refine then_normal ?_
            refine al_w [(0, sV 0 ps.length), (3, .pointer (some ⟨1, 0, none⟩)), (5, .int .i64 out), (12, .int .i64 ((ps.length : Nat) : Int)), (13, .int .i64 (((i + 1) : Nat) : Int))] [(0, (pB ps)), (1, ⟨[.int .i64 (Sp.lim 1048576 x), .int .i64 (Sp.lim 1048576 y)], 28, true, 2⟩)] ?_ (hc := (by simp [closedB, valsB, valB, List.all_eq_true, List.mem_flatMap, List.mem_range, List.mem_map, i64v, ptc, flat1]; try (intros; simp [valsB, valB, flat1]); try decide))
            exact ih1 ((i + 1), out) (show ((i + 1) ≤ ps.length) ∧ (-1 ≤ out ∧ out ≤ 1) ∧ (Sp.hasF ps (Sp.lim 1048576 x) (Sp.lim 1048576 y) (i + 1) out = Sp.hasF ps (Sp.lim 1048576 x) (Sp.lim 1048576 y) 0 (-1)) from ⟨by omega, by omega, by (rw [← hh]; first | exact Sp.hasF_no hil hj (by assumption) (Sp.crX_d1 (by assumption) (by assumption)) | exact Sp.hasF_no hil hj (by assumption) (Sp.crX_d2 (by assumption) (by assumption) (by assumption)) | exact Sp.hasF_no hil hj (by assumption) (Sp.crX_d3 (by assumption) (by assumption) (by assumption) (by assumption)) | exact Sp.hasF_cr hil hj (by assumption) (Sp.crX_d4 (by assumption) (by assumption) (by assumption) (by assumption)) | exact Sp.hasF_no hil hj (by assumption) (Sp.crX_u1 (by assumption) (by assumption)) | exact Sp.hasF_no hil hj (by assumption) (Sp.crX_u2 (by assumption) (by assumption) (by assumption)) | exact Sp.hasF_no hil hj (by assumption) (Sp.crX_u3 (by assumption) (by assumption) (by assumption) (by assumption)) | exact Sp.hasF_cr hil hj (by assumption) (Sp.crX_u4 (by assumption) (by assumption) (by assumption) (by assumption)))⟩) (show ps.length - (i + 1) < ps.length - i from by omega)
        · have h7p : ¬ (((Sp.lim 1048576 ((ps.getD i (0, 0)).2)) < (Sp.lim 1048576 y))) := by first | (simpa using h7) | (have h7q := h7; simp at h7q; omega) | (have h7q := bx2 h7; simp at h7q; omega)
          refine aw_p 126911 (
            .a 4 4 <| .p (does_b false (h7)) <| .a 14 4 <| .nil _ _) ?_
          refine aw_fl 253823 ?_
          refine aw_sk ?_
          refine block_normal ?_
          refine then_normal ?_
          refine aw_p1 (
            .p (does_i (((i : Nat) : Int) + 1) (wrap_i64 (by omega) (by omega)) .i64) <| .a 1 4 <| .nil _ _) ?_
          refine then_normal ?_
          refine al_w [(0, sV 0 ps.length), (3, .pointer (some ⟨1, 0, none⟩)), (5, .int .i64 out), (12, .int .i64 ((ps.length : Nat) : Int)), (13, .int .i64 (((i + 1) : Nat) : Int))] [(0, (pB ps)), (1, ⟨[.int .i64 (Sp.lim 1048576 x), .int .i64 (Sp.lim 1048576 y)], 28, true, 2⟩)] ?_ (hc := (by simp [closedB, valsB, valB, List.all_eq_true, List.mem_flatMap, List.mem_range, List.mem_map, i64v, ptc, flat1]; try (intros; simp [valsB, valB, flat1]); try decide))
          exact ih1 ((i + 1), out) (show ((i + 1) ≤ ps.length) ∧ (-1 ≤ out ∧ out ≤ 1) ∧ (Sp.hasF ps (Sp.lim 1048576 x) (Sp.lim 1048576 y) (i + 1) out = Sp.hasF ps (Sp.lim 1048576 x) (Sp.lim 1048576 y) 0 (-1)) from ⟨by omega, by omega, by (rw [← hh]; first | exact Sp.hasF_no hil hj (by assumption) (Sp.crX_d1 (by assumption) (by assumption)) | exact Sp.hasF_no hil hj (by assumption) (Sp.crX_d2 (by assumption) (by assumption) (by assumption)) | exact Sp.hasF_no hil hj (by assumption) (Sp.crX_d3 (by assumption) (by assumption) (by assumption) (by assumption)) | exact Sp.hasF_cr hil hj (by assumption) (Sp.crX_d4 (by assumption) (by assumption) (by assumption) (by assumption)) | exact Sp.hasF_no hil hj (by assumption) (Sp.crX_u1 (by assumption) (by assumption)) | exact Sp.hasF_no hil hj (by assumption) (Sp.crX_u2 (by assumption) (by assumption) (by assumption)) | exact Sp.hasF_no hil hj (by assumption) (Sp.crX_u3 (by assumption) (by assumption) (by assumption) (by assumption)) | exact Sp.hasF_cr hil hj (by assumption) (Sp.crX_u4 (by assumption) (by assumption) (by assumption) (by assumption)))⟩) (show ps.length - (i + 1) < ps.length - i from by omega)
  · have h1p : ¬ ((((i : Nat) : Int) < ((ps.length : Nat) : Int))) := by first | (simpa using h1) | (have h1q := h1; simp at h1q; omega) | (have h1q := bx2 h1; simp at h1q; omega)
    have hge : ¬ i < ps.length := by omega
    refine aw_ex 0 ?_
    refine then_exit ?_
    refine then_exit ?_
    refine block_exit ?_
    refine then_normal ?_
    refine aw_p 63 (
      .a 2 2 <| .nil _ _) ?_
    refine aw_rt ?_
    exact en_ret [.int .i64 out] (show (.int .i64 out : Value) = (.int .i64 (Sp.hasF ps (Sp.lim 1048576 x) (Sp.lim 1048576 y) 0 (-1))) from (congrArg (Value.int .i64) (show out = (Sp.hasF ps (Sp.lim 1048576 x) (Sp.lim 1048576 y) 0 (-1)) from by (first | exact (by rw [← hh, Sp.hasF_on hil hj (by assumption)]) | exact (by rw [← hh, Sp.hasF_end hge])))))
theorem twice_own (ps : List (Int × Int)) (hz : ps.length ≤ 9223372036854775807) :
    AC Tryz.prog 14 1 ([sV 0 ps.length]) [(0, (pB ps))] (.int .i64 (Sp.twF ps 1 0)) [(0, (pB ps))] := by
  refine ac_in Tryz.func14 (fun w0 W pin => ?_)
  refine aw_p 3 (
    .a 1 1 <| .nil _ _) ?_
  refine aw_p 7 (
    .a 1 1 <| .nil _ _) ?_
  refine aw_sq 14 15 ?_
  refine aw_p 29 (
    .a 1 1 <| .nil _ _) ?_
  refine aw_bl 0 59 ?_
  refine aw_lp 119 ?_
  refine al_w [(0, sV 0 ps.length), (3, .int .i64 0), (4, .int .i64 ((1 + 1 : Nat) : Int))] [(0, (pB ps))] ?_ (hc := (by simp [closedB, valsB, valB, List.all_eq_true, List.mem_flatMap, List.mem_range, List.mem_map, i64v, ptc, flat1]; try (intros; simp [valsB, valB, flat1]); try decide))
  refine al_ind (fun i : Nat × Int => (fun (k : Nat) (s : Int) => mkSt 1 [(0, sV 0 ps.length), (3, .int .i64 s), (4, .int .i64 ((k + 1 : Nat) : Int))] [(0, (pB ps))]) i.1 i.2) (fun i : Nat × Int => (fun (k : Nat) (s : Int) => (1 ≤ k ∧ (k ≤ ps.length ∨ k = 1)) ∧ (Sp.twF ps k s = Sp.twF ps 1 0)) i.1 i.2) (fun i : Nat × Int => (fun (k : Nat) (s : Int) => ps.length - k) i.1 i.2) (fun i hi1 ih1 => ?_) (1, 0) (show (1 ≤ 1 ∧ (1 ≤ ps.length ∨ 1 = 1)) ∧ (Sp.twF ps 1 0 = Sp.twF ps 1 0) from ⟨by omega, by rfl⟩)
  obtain ⟨k, s⟩ := i
  have hi1' : (1 ≤ k ∧ (k ≤ ps.length ∨ k = 1)) ∧ (Sp.twF ps k s = Sp.twF ps 1 0) := hi1
  obtain ⟨hi, hh⟩ := hi1'
  show AL _ _ _ (mkSt 1 [(0, sV 0 ps.length), (3, .int .i64 s), (4, .int .i64 ((k + 1 : Nat) : Int))] [(0, (pB ps))]) _
  refine al_round ?_
  refine aw_sq 238 239 ?_
  refine aw_p 477 (
    .a 4 1 <| .nil _ _) ?_
  refine aw_cd 954 955 (decide (((k + 1 : Nat) : Int) < ((ps.length : Nat) : Int))) (fun h1 => ?_) (fun h1 => ?_)
  · have h1p : ((((k + 1 : Nat) : Int) < ((ps.length : Nat) : Int))) := by first | (simpa using h1) | (have h1q := h1; simp at h1q; omega) | (have h1q := bx1 h1; simp at h1q; omega)
    have hil : k + 1 < ps.length := by omega
    refine aw_sk ?_
    refine then_normal ?_
    refine aw_sq 478 479 ?_
    refine aw_bl 1 957 ?_
    refine aw_d1 (
      .a 2 1 <| .p (does_indexSlice (t := 39) (x := .tmp 12) (y := .const (.int .i64 0)) (k := 0) (off := 0) (n := ps.length) (c := 0) (z := 2) (kd := .i64) (j := 0) (by kernel_rfl) (by kernel_rfl) (by kernel_rfl) (by kernel_rfl) (by kernel_rfl) (by omega) (by omega)) <|
      .p (does_load (t := 28) (x := .tmp 13) (k := 0) (off := 0) (b := (pB ps)) (v := .agg #[.int .i64 ((ps.getD 0 (0, 0)).1), .int .i64 ((ps.getD 0 (0, 0)).2)]) (by kernel_rfl) (by kernel_rfl) (by kernel_rfl) (ldV_pair (j := 0) (by kernel_rfl) (by kernel_rfl) (by omega) (by omega))) <| .a 2 1 <|
      .p (does_i ((k : Nat) : Int) ((show (IntKind.wrap .i64 (((k + 1 : Nat) : Int) - 1)) = ((k : Nat) : Int) from ((wrap_i64 (by omega) (by omega)).trans (by omega)))) .i64) <|
      .p (does_indexSlice (t := 39) (x := .tmp 15) (y := .tmp 17) (k := 0) (off := 0) (n := ps.length) (c := 0) (z := 2) (kd := .i64) (j := ((k : Nat) : Int)) (by kernel_rfl) (by kernel_rfl) (by kernel_rfl) (by kernel_rfl) (by kernel_rfl) (by omega) (by omega)) <|
      .p (does_load (t := 28) (x := .tmp 18) (k := 0) (off := (0 + (((k : Nat) : Int)).toNat * 2)) (b := (pB ps)) (v := .agg #[.int .i64 ((ps.getD k (0, 0)).1), .int .i64 ((ps.getD k (0, 0)).2)]) (by kernel_rfl) (by kernel_rfl) (by kernel_rfl) (ldV_pair (j := k) (by kernel_rfl) (by kernel_rfl) (by omega) (by omega))) <|
      .a 2 1 <| .p (does_indexSlice (t := 39) (x := .tmp 20) (y := .tmp 21) (k := 0) (off := 0) (n := ps.length) (c := 0) (z := 2) (kd := .i64) (j := ((k + 1 : Nat) : Int)) (by kernel_rfl) (by kernel_rfl) (by kernel_rfl) (by kernel_rfl) (by kernel_rfl) (by omega) (by omega)) <|
      .p (does_load (t := 28) (x := .tmp 22) (k := 0) (off := (0 + (((k + 1 : Nat) : Int)).toNat * 2)) (b := (pB ps)) (v := .agg #[.int .i64 ((ps.getD (k + 1) (0, 0)).1), .int .i64 ((ps.getD (k + 1) (0, 0)).2)]) (by kernel_rfl) (by kernel_rfl) (by kernel_rfl) (ldV_pair (j := (k + 1)) (by kernel_rfl) (by kernel_rfl) (by omega) (by omega))) <|
      .p (does_c (cross_ok ((ps.getD 0 (0, 0)).1) ((ps.getD 0 (0, 0)).2) ((ps.getD k (0, 0)).1) ((ps.getD k (0, 0)).2) ((ps.getD (k + 1) (0, 0)).1) ((ps.getD (k + 1) (0, 0)).2))) <| .a 2 1 <| .nil _ _) ?_
    refine block_normal ?_
    refine then_normal ?_
    refine aw_p1 (
      .a 1 1 <| .p (does_i (((k + 1 : Nat) : Int) + 1) (wrap_i64 (by omega) (by omega)) .i64) <| .a 1 1 <| .nil _ _) ?_
    refine then_normal ?_
    refine al_w [(0, sV 0 ps.length), (3, .int .i64 (IntKind.wrap .i64 (s + (Sp.crs (Sp.lim 1048576 ((ps.getD 0 (0, 0)).1)) (Sp.lim 1048576 ((ps.getD 0 (0, 0)).2)) (Sp.lim 1048576 ((ps.getD k (0, 0)).1)) (Sp.lim 1048576 ((ps.getD k (0, 0)).2)) (Sp.lim 1048576 ((ps.getD (k + 1) (0, 0)).1)) (Sp.lim 1048576 ((ps.getD (k + 1) (0, 0)).2)))))), (4, .int .i64 (((k + 1) + 1 : Nat) : Int))] [(0, (pB ps))] ?_ (hc := (by simp [closedB, valsB, valB, List.all_eq_true, List.mem_flatMap, List.mem_range, List.mem_map, i64v, ptc, flat1]; try (intros; simp [valsB, valB, flat1]); try decide))
    exact ih1 ((k + 1), (IntKind.wrap .i64 (s + (Sp.crs (Sp.lim 1048576 ((ps.getD 0 (0, 0)).1)) (Sp.lim 1048576 ((ps.getD 0 (0, 0)).2)) (Sp.lim 1048576 ((ps.getD k (0, 0)).1)) (Sp.lim 1048576 ((ps.getD k (0, 0)).2)) (Sp.lim 1048576 ((ps.getD (k + 1) (0, 0)).1)) (Sp.lim 1048576 ((ps.getD (k + 1) (0, 0)).2)))))) (show (1 ≤ (k + 1) ∧ ((k + 1) ≤ ps.length ∨ (k + 1) = 1)) ∧ (Sp.twF ps (k + 1) (IntKind.wrap .i64 (s + (Sp.crs (Sp.lim 1048576 ((ps.getD 0 (0, 0)).1)) (Sp.lim 1048576 ((ps.getD 0 (0, 0)).2)) (Sp.lim 1048576 ((ps.getD k (0, 0)).1)) (Sp.lim 1048576 ((ps.getD k (0, 0)).2)) (Sp.lim 1048576 ((ps.getD (k + 1) (0, 0)).1)) (Sp.lim 1048576 ((ps.getD (k + 1) (0, 0)).2))))) = Sp.twF ps 1 0) from ⟨by omega, by (rw [← hh]; exact Sp.twF_step hil)⟩) (show ps.length - (k + 1) < ps.length - k from by omega)
  · have h1p : ¬ ((((k + 1 : Nat) : Int) < ((ps.length : Nat) : Int))) := by first | (simpa using h1) | (have h1q := h1; simp at h1q; omega) | (have h1q := bx2 h1; simp at h1q; omega)
    have hge : ¬ k + 1 < ps.length := by omega
    refine aw_ex 0 ?_
    refine then_exit ?_
    refine then_exit ?_
    refine block_exit ?_
    refine then_normal ?_
    refine aw_p 31 (
      .a 2 1 <| .nil _ _) ?_
    refine aw_rt ?_
    exact en_ret [.int .i64 s] (show (.int .i64 s : Value) = (.int .i64 (Sp.twF ps 1 0)) from (congrArg (Value.int .i64) (show s = (Sp.twF ps 1 0) from by (exact (by rw [← hh, Sp.twF_end hge])))))
theorem hasn_own (ps : List (Int × Int)) (N : Nat) (hN : ps.length = N) (hz : N ≤ 9223372036854775807) (x y : Int) : AC Tryz.prog 15 1 [.slice (some ⟨0, 0, none⟩) N 0, .agg #[.int .i64 x, .int .i64 y]] [(0, ⟨(ps.flatMap ptc), 28, true, 2⟩)] (.int .i64 (Sp.hasF ps (Sp.lim 1048576 x) (Sp.lim 1048576 y) 0 (-1))) [(0, ⟨(ps.flatMap ptc), 28, true, 2⟩)] := by
  subst hN
  exact has_own ps hz x y
theorem twicen_own (ps : List (Int × Int)) (N : Nat) (hN : ps.length = N) (hz : N ≤ 9223372036854775807) : AC Tryz.prog 14 1 [.slice (some ⟨0, 0, none⟩) N 0] [(0, ⟨(ps.flatMap ptc), 28, true, 2⟩)] (.int .i64 (Sp.twF ps 1 0)) [(0, ⟨(ps.flatMap ptc), 28, true, 2⟩)] := by
  subst hN
  exact twice_own ps hz
end Go.Proofs.YtndkhgfecnbmnaaGreat.Am

namespace Go.Proofs.YtndkhgfecnbmnaaGreat.Am
open Go Go.Proofs
set_option maxRecDepth 100000
set_option maxHeartbeats 4000000
set_option linter.unusedVariables false
set_option linter.unusedSimpArgs false
theorem acheck_n1 (R1 : List (Int × Int)) (zR1 : 1 ≤ R1.length ∧ R1.length ≤ 200) (fR1 : Sp.Few 1000 R1) (cR1 : Sp.chkF R1 = 0) :
    AC Tryz.prog 8 2 ([sV 0 1]) [(0, ⟨[sV 1 R1.length], 39, true, 1⟩), (1, (pB R1))] (.int .i64 0) [(0, ⟨[sV 1 R1.length], 39, true, 1⟩), (1, (pB R1))] := by
  refine ac_in Tryz.func8 (fun w0 W pin => ?_)
  refine aw_p 3 (
    .a 1 2 <| .nil _ _) ?_
  refine aw_sq 6 7 ?_
  refine aw_p 13 (
    .a 3 2 <| .nil _ _) ?_
  refine aw_fl 27 ?_
  refine aw_sk ?_
  refine then_normal ?_
  refine aw_sq 14 15 ?_
  refine aw_p 29 (
    .a 3 2 <| .nil _ _) ?_
  refine aw_bl 0 59 ?_
  refine aw_lp 119 ?_
  refine al_round ?_
  refine aw_p 239 (
    .a 1 2 <| .nil _ _) ?_
  refine aw_sq 478 479 ?_
  refine aw_tr 956 ?_
  refine aw_sk ?_
  refine then_normal ?_
  refine aw_sq 958 959 ?_
  refine aw_bl 1 1917 ?_
  refine aw_p 3835 (
    .a 3 2 <| .nil _ _) ?_
  refine aw_p 7671 (
    .a 1 2 <| .p (cS (m := 1) (args0 := [sV 0 R1.length]) (pre0 := [(0, (pB R1))]) (v0 := .int .i64 0) #[.tmp 19] #[39] [sV 1 R1.length] [1] [(1, (pB R1))] (.int .i64 0) ((by have h := chkn_own R1 R1.length rfl (by omega); rw [cR1] at h; exact h)) (.cons rS .nil) ⟨rfl, bP, trivial⟩ rF) <| .a 1 2 <| .nil _ _) ?_
  refine aw_p 15343 (
    .a 2 2 <| .nil _ _) ?_
  refine aw_fl 30687 ?_
  refine aw_sk ?_
  refine block_normal ?_
  refine then_normal ?_
  refine aw_p1 (
    .a 2 2 <| .nil _ _) ?_
  refine then_normal ?_
  refine al_round ?_
  refine aw_p 239 (
    .a 1 2 <| .nil _ _) ?_
  refine aw_sq 478 479 ?_
  refine aw_fl 957 ?_
  refine aw_ex 0 ?_
  refine then_exit ?_
  refine then_exit ?_
  refine block_exit ?_
  refine then_normal ?_
  refine aw_sq 30 31 ?_
  refine aw_p 61 (
    .a 3 2 <| .nil _ _) ?_
  refine aw_bl 2 123 ?_
  refine aw_lp 247 ?_
  refine al_round ?_
  refine aw_p 495 (
    .a 1 2 <| .nil _ _) ?_
  refine aw_sq 990 991 ?_
  refine aw_tr 1980 ?_
  refine aw_sk ?_
  refine then_normal ?_
  refine aw_sq 1982 1983 ?_
  refine aw_bl 3 3965 ?_
  refine aw_p 7931 (
    .a 5 2 <| .nil _ _) ?_
  refine aw_p 15863 (
    .a 2 2 <|
    .p (does_val (v' := sV 0 0) (does_slice (t := 25) (x := .tmp 32) (lo := none) (hi := some (.tmp 33)) (k := 0) (off := 0) (n := 1) (c := 0) (z := 1) (l := 0) (h := 0) (m := 0) (b := ⟨[sV 1 R1.length], 39, true, 1⟩) (by kernel_rfl) (by kernel_rfl) (by kernel_rfl) (by kernel_rfl) (by kernel_rfl) (by kernel_rfl) (by kernel_rfl) (by kernel_rfl) (by decide) (by decide) (by decide) (by decide)) (by kernel_rfl)) <|
    .a 2 2 <| .nil _ _) ?_
  refine aw_bl 4 31727 ?_
  refine aw_lp 63455 ?_
  refine al_round ?_
  refine aw_p 126911 (
    .a 1 2 <| .nil _ _) ?_
  refine aw_sq 253822 253823 ?_
  refine aw_fl 507645 ?_
  refine aw_ex 4 ?_
  refine then_exit ?_
  refine then_exit ?_
  refine block_exit ?_
  refine block_normal ?_
  refine then_normal ?_
  refine aw_p1 (
    .a 2 2 <| .nil _ _) ?_
  refine then_normal ?_
  refine al_round ?_
  refine aw_p 495 (
    .a 1 2 <| .nil _ _) ?_
  refine aw_sq 990 991 ?_
  refine aw_fl 1981 ?_
  refine aw_ex 2 ?_
  refine then_exit ?_
  refine then_exit ?_
  refine block_exit ?_
  refine then_normal ?_
  refine aw_p 63 (
    .a 1 2 <| .nil _ _) ?_
  refine aw_rt ?_
  exact en_ret [.int .i64 0] (by kernel_rfl)
theorem adepth_n1 (R1 : List (Int × Int)) (zR1 : 1 ≤ R1.length ∧ R1.length ≤ 200) (fR1 : Sp.Few 1000 R1) (cR1 : Sp.chkF R1 = 0) :
    AC Tryz.prog 27 2 ([sV 0 1]) [(0, ⟨[sV 1 R1.length], 39, true, 1⟩), (1, (pB R1))] (sV 2 1) [(0, ⟨[sV 1 R1.length], 39, true, 1⟩), (1, (pB R1)), (2, ⟨[.int .i64 0], 3, true, 1⟩)] := by
  refine ac_in Tryz.func27 (fun w0 W pin => ?_)
  refine aw_p 3 (
    .a 1 2 <| .nil _ _) ?_
  refine aw_sq 6 7 ?_
  refine aw_p 13 (
    .a 1 2 <| .p (cS #[.tmp 8] #[25] [sV 0 1] [0, 1] [(0, ⟨[sV 1 R1.length], 39, true, 1⟩), (1, (pB R1))] (.int .i64 0) (acheck_n1 R1 zR1 fR1 cR1) (.cons rS .nil) ⟨rfl, ⟨rfl, rfl, rfl, (.cons rS .nil)⟩, rfl, bP, trivial⟩ rF) <| .a 1 2 <| .nil _ _) ?_
  refine aw_fl 27 ?_
  refine aw_sk ?_
  refine then_normal ?_
  refine aw_p 15 (
    .a 2 2 <| .p (does_mk (kl := .i64) (kc := .i64) (n' := 1) (c' := 1) 2 3 1 8 1 1 (.int .i64 0) [.int .i64 0] (by kernel_rfl) (by kernel_rfl) (by kernel_rfl) (by kernel_rfl) (by decide) (by decide) (by decide) (by decide) (by decide)) <| .a 1 3 <| .nil _ _) ?_
  refine aw_sq 30 31 ?_
  refine aw_p 61 (
    .a 3 3 <| .nil _ _) ?_
  refine aw_bl 0 123 ?_
  refine aw_lp 247 ?_
  refine al_round ?_
  refine aw_p 495 (
    .a 1 3 <| .nil _ _) ?_
  refine aw_sq 990 991 ?_
  refine aw_tr 1980 ?_
  refine aw_sk ?_
  refine then_normal ?_
  refine aw_sq 1982 1983 ?_
  refine aw_bl 1 3965 ?_
  refine aw_p 7931 (
    .a 5 3 <| .nil _ _) ?_
  refine aw_p 15863 (
    .a 3 3 <| .nil _ _) ?_
  refine aw_bl 2 31727 ?_
  refine aw_lp 63455 ?_
  refine al_round ?_
  refine aw_p 126911 (
    .a 1 3 <| .nil _ _) ?_
  refine aw_sq 253822 253823 ?_
  refine aw_tr 507644 ?_
  refine aw_sk ?_
  refine then_normal ?_
  refine aw_sq 507646 507647 ?_
  refine aw_bl 3 1015293 ?_
  refine aw_p 2030587 (
    .a 5 3 <| .nil _ _) ?_
  refine aw_p 4061175 (
    .a 9 3 <| .nil _ _) ?_
  refine aw_fl 8122351 ?_
  refine aw_sk ?_
  refine block_normal ?_
  refine then_normal ?_
  refine aw_p1 (
    .a 2 3 <| .nil _ _) ?_
  refine then_normal ?_
  refine al_round ?_
  refine aw_p 126911 (
    .a 1 3 <| .nil _ _) ?_
  refine aw_sq 253822 253823 ?_
  refine aw_fl 507645 ?_
  refine aw_ex 2 ?_
  refine then_exit ?_
  refine then_exit ?_
  refine block_exit ?_
  refine block_normal ?_
  refine then_normal ?_
  refine aw_p1 (
    .a 2 3 <| .nil _ _) ?_
  refine then_normal ?_
  refine al_round ?_
  refine aw_p 495 (
    .a 1 3 <| .nil _ _) ?_
  refine aw_sq 990 991 ?_
  refine aw_fl 1981 ?_
  refine aw_ex 0 ?_
  refine then_exit ?_
  refine then_exit ?_
  refine block_exit ?_
  refine then_normal ?_
  refine aw_p 63 (
    .a 2 3 <| .nil _ _) ?_
  refine aw_rt ?_
  exact en_ret [sV 2 1] (by kernel_rfl)
theorem atwice_n1 (R1 : List (Int × Int)) (zR1 : 1 ≤ R1.length ∧ R1.length ≤ 200) (fR1 : Sp.Few 1000 R1) (cR1 : Sp.chkF R1 = 0) (a1 : Int) (t1 : Sp.twF R1 1 0 = a1) (b1 : -100000 ≤ a1 ∧ a1 ≤ 100000) :
    AC Tryz.prog 10 2 ([sV 0 1]) [(0, ⟨[sV 1 R1.length], 39, true, 1⟩), (1, (pB R1))] (.int .i64 (0 + (Sp.mx a1 (0 - a1)))) [(0, ⟨[sV 1 R1.length], 39, true, 1⟩), (1, (pB R1))] := by
  have m1 : 0 ≤ Sp.mx a1 (0 - a1) ∧ Sp.mx a1 (0 - a1) ≤ 100000 := (by unfold Sp.mx; split <;> omega)
  refine ac_in Tryz.func10 (fun w0 W pin => ?_)
  refine aw_p 3 (
    .a 1 2 <| .nil _ _) ?_
  refine aw_p 7 (
    .a 1 2 <| .nil _ _) ?_
  refine aw_sq 14 15 ?_
  refine aw_p 29 (
    .a 1 2 <|
    .p (cF #[.tmp 7] #[25] [sV 0 1] 1 [0, 1, 2] [(0, ⟨[sV 1 R1.length], 39, true, 1⟩), (1, (pB R1))] [(0, ⟨[sV 1 R1.length], 39, true, 1⟩), (1, (pB R1)), (2, ⟨[.int .i64 0], 3, true, 1⟩)] (sV 2 1) (adepth_n1 R1 zR1 fR1 cR1) (.cons rS .nil) ⟨rfl, ⟨rfl, rfl, rfl, (.cons rS .nil)⟩, rfl, bP, trivial⟩ ⟨rfl, ⟨rfl, rfl, rfl, (.cons rS .nil)⟩, rfl, bP, rfl, ⟨rfl, rfl, rfl, (.flats (by kernel_rfl))⟩, trivial⟩ rS) <|
    .a 2 3 <| .nil _ _) ?_
  refine aw_bl 0 59 ?_
  refine aw_lp 119 ?_
  refine al_round ?_
  refine aw_p 239 (
    .a 1 3 <| .nil _ _) ?_
  refine aw_sq 478 479 ?_
  refine aw_tr 956 ?_
  refine aw_sk ?_
  refine then_normal ?_
  refine aw_sq 958 959 ?_
  refine aw_bl 1 1917 ?_
  refine aw_p 3835 (
    .a 5 3 <| .nil _ _) ?_
  refine aw_p 7671 (
    .a 4 3 <| .p (cS (m := 1) (args0 := [sV 0 R1.length]) (pre0 := [(0, (pB R1))]) (v0 := .int .i64 a1) #[.tmp 18] #[39] [sV 1 R1.length] [1] [(1, (pB R1))] (.int .i64 a1) ((by have h := twicen_own R1 R1.length rfl (by omega); rw [t1] at h; exact h)) (.cons rS .nil) ⟨rfl, bP, trivial⟩ rF) <| .a 1 3 <| .nil _ _) ?_
  refine aw_p 15343 (
    .a 2 3 <| .p (does_i (0 - a1) (wrap_i64 (by omega) (by omega)) .i64) <| .a 2 3 <| .nil _ _) ?_
  refine aw_sq 30686 30687 ?_
  refine aw_p 61373 (
    .a 3 3 <| .nil _ _) ?_
  refine aw_fl 122747 ?_
  refine aw_sk ?_
  refine then_normal ?_
  refine aw_p1 (
    .a 2 3 <| .p (does_i (0 + (Sp.mx a1 (0 - a1))) (wrap_i64 (by omega) (by omega)) .i64) <| .a 1 3 <| .nil _ _) ?_
  refine block_normal ?_
  refine then_normal ?_
  refine aw_p1 (
    .a 2 3 <| .nil _ _) ?_
  refine then_normal ?_
  refine al_round ?_
  refine aw_p 239 (
    .a 1 3 <| .nil _ _) ?_
  refine aw_sq 478 479 ?_
  refine aw_fl 957 ?_
  refine aw_ex 0 ?_
  refine then_exit ?_
  refine then_exit ?_
  refine block_exit ?_
  refine then_normal ?_
  refine aw_p 31 (
    .a 2 3 <| .nil _ _) ?_
  refine aw_rt ?_
  exact en_ret [.int .i64 (0 + (Sp.mx a1 (0 - a1)))] (by kernel_rfl)
end Go.Proofs.YtndkhgfecnbmnaaGreat.Am

namespace Go.Proofs.YtndkhgfecnbmnaaGreat.Am
open Go Go.Proofs
set_option maxRecDepth 100000
set_option maxHeartbeats 4000000
set_option linter.unusedVariables false
set_option linter.unusedSimpArgs false
theorem acheck_o1 (R1 R2 : List (Int × Int)) (zR1 : 1 ≤ R1.length ∧ R1.length ≤ 200) (fR1 : Sp.Few 1000 R1) (zR2 : 1 ≤ R2.length ∧ R2.length ≤ 200) (fR2 : Sp.Few 1000 R2) (cR1 : Sp.chkF R1 = 0) (cR2 : Sp.chkF R2 = 0) (F21 : Sp.Fit R2 R1 (-1) 1) :
    AC Tryz.prog 8 3 ([sV 0 2]) [(0, ⟨[sV 1 R1.length, sV 2 R2.length], 39, true, 1⟩), (1, (pB R1)), (2, (pB R2))] (.int .i64 0) [(0, ⟨[sV 1 R1.length, sV 2 R2.length], 39, true, 1⟩), (1, (pB R1)), (2, (pB R2))] := by
  refine ac_in Tryz.func8 (fun w0 W pin => ?_)
  refine aw_p 3 (
    .a 1 3 <| .nil _ _) ?_
  refine aw_sq 6 7 ?_
  refine aw_p 13 (
    .a 3 3 <| .nil _ _) ?_
  refine aw_fl 27 ?_
  refine aw_sk ?_
  refine then_normal ?_
  refine aw_sq 14 15 ?_
  refine aw_p 29 (
    .a 3 3 <| .nil _ _) ?_
  refine aw_bl 0 59 ?_
  refine aw_lp 119 ?_
  refine al_round ?_
  refine aw_p 239 (
    .a 1 3 <| .nil _ _) ?_
  refine aw_sq 478 479 ?_
  refine aw_tr 956 ?_
  refine aw_sk ?_
  refine then_normal ?_
  refine aw_sq 958 959 ?_
  refine aw_bl 1 1917 ?_
  refine aw_p 3835 (
    .a 3 3 <| .nil _ _) ?_
  refine aw_p 7671 (
    .a 1 3 <| .p (cS (m := 1) (args0 := [sV 0 R1.length]) (pre0 := [(0, (pB R1))]) (v0 := .int .i64 0) #[.tmp 19] #[39] [sV 1 R1.length] [1] [(1, (pB R1))] (.int .i64 0) ((by have h := chkn_own R1 R1.length rfl (by omega); rw [cR1] at h; exact h)) (.cons rS .nil) ⟨rfl, bP, trivial⟩ rF) <| .a 1 3 <| .nil _ _) ?_
  refine aw_p 15343 (
    .a 2 3 <| .nil _ _) ?_
  refine aw_fl 30687 ?_
  refine aw_sk ?_
  refine block_normal ?_
  refine then_normal ?_
  refine aw_p1 (
    .a 2 3 <| .nil _ _) ?_
  refine then_normal ?_
  refine al_round ?_
  refine aw_p 239 (
    .a 1 3 <| .nil _ _) ?_
  refine aw_sq 478 479 ?_
  refine aw_tr 956 ?_
  refine aw_sk ?_
  refine then_normal ?_
  refine aw_sq 958 959 ?_
  refine aw_bl 1 1917 ?_
  refine aw_p 3835 (
    .a 3 3 <| .nil _ _) ?_
  refine aw_p 7671 (
    .a 1 3 <| .p (cS (m := 1) (args0 := [sV 0 R2.length]) (pre0 := [(0, (pB R2))]) (v0 := .int .i64 0) #[.tmp 19] #[39] [sV 2 R2.length] [2] [(2, (pB R2))] (.int .i64 0) ((by have h := chkn_own R2 R2.length rfl (by omega); rw [cR2] at h; exact h)) (.cons rS .nil) ⟨rfl, bP, trivial⟩ rF) <| .a 1 3 <| .nil _ _) ?_
  refine aw_p 15343 (
    .a 2 3 <| .nil _ _) ?_
  refine aw_fl 30687 ?_
  refine aw_sk ?_
  refine block_normal ?_
  refine then_normal ?_
  refine aw_p1 (
    .a 2 3 <| .nil _ _) ?_
  refine then_normal ?_
  refine al_round ?_
  refine aw_p 239 (
    .a 1 3 <| .nil _ _) ?_
  refine aw_sq 478 479 ?_
  refine aw_fl 957 ?_
  refine aw_ex 0 ?_
  refine then_exit ?_
  refine then_exit ?_
  refine block_exit ?_
  refine then_normal ?_
  refine aw_sq 30 31 ?_
  refine aw_p 61 (
    .a 3 3 <| .nil _ _) ?_
  refine aw_bl 2 123 ?_
  refine aw_lp 247 ?_
  refine al_round ?_
  refine aw_p 495 (
    .a 1 3 <| .nil _ _) ?_
  refine aw_sq 990 991 ?_
  refine aw_tr 1980 ?_
  refine aw_sk ?_
  refine then_normal ?_
  refine aw_sq 1982 1983 ?_
  refine aw_bl 3 3965 ?_
  refine aw_p 7931 (
    .a 5 3 <| .nil _ _) ?_
  refine aw_p 15863 (
    .a 2 3 <|
    .p (does_val (v' := sV 0 0) (does_slice (t := 25) (x := .tmp 32) (lo := none) (hi := some (.tmp 33)) (k := 0) (off := 0) (n := 2) (c := 0) (z := 1) (l := 0) (h := 0) (m := 0) (b := ⟨[sV 1 R1.length, sV 2 R2.length], 39, true, 1⟩) (by kernel_rfl) (by kernel_rfl) (by kernel_rfl) (by kernel_rfl) (by kernel_rfl) (by kernel_rfl) (by kernel_rfl) (by kernel_rfl) (by decide) (by decide) (by decide) (by decide)) (by kernel_rfl)) <|
    .a 2 3 <| .nil _ _) ?_
  refine aw_bl 4 31727 ?_
  refine aw_lp 63455 ?_
  refine al_round ?_
  refine aw_p 126911 (
    .a 1 3 <| .nil _ _) ?_
  refine aw_sq 253822 253823 ?_
  refine aw_fl 507645 ?_
  refine aw_ex 4 ?_
  refine then_exit ?_
  refine then_exit ?_
  refine block_exit ?_
  refine block_normal ?_
  refine then_normal ?_
  refine aw_p1 (
    .a 2 3 <| .nil _ _) ?_
  refine then_normal ?_
  refine al_round ?_
  refine aw_p 495 (
    .a 1 3 <| .nil _ _) ?_
  refine aw_sq 990 991 ?_
  refine aw_tr 1980 ?_
  refine aw_sk ?_
  refine then_normal ?_
  refine aw_sq 1982 1983 ?_
  refine aw_bl 3 3965 ?_
  refine aw_p 7931 (
    .a 5 3 <| .nil _ _) ?_
  refine aw_p 15863 (
    .a 2 3 <|
    .p (does_val (v' := sV 0 1) (does_slice (t := 25) (x := .tmp 32) (lo := none) (hi := some (.tmp 33)) (k := 0) (off := 0) (n := 2) (c := 0) (z := 1) (l := 0) (h := 1) (m := 1) (b := ⟨[sV 1 R1.length, sV 2 R2.length], 39, true, 1⟩) (by kernel_rfl) (by kernel_rfl) (by kernel_rfl) (by kernel_rfl) (by kernel_rfl) (by kernel_rfl) (by kernel_rfl) (by kernel_rfl) (by decide) (by decide) (by decide) (by decide)) (by kernel_rfl)) <|
    .a 2 3 <| .nil _ _) ?_
  refine aw_bl 4 31727 ?_
  refine aw_lp 63455 ?_
  refine al_round ?_
  refine aw_p 126911 (
    .a 1 3 <| .nil _ _) ?_
  refine aw_sq 253822 253823 ?_
  refine aw_tr 507644 ?_
  refine aw_sk ?_
  refine then_normal ?_
  refine aw_sq 507646 507647 ?_
  refine aw_bl 5 1015293 ?_
  refine aw_p 2030587 (
    .a 3 3 <| .nil _ _) ?_
  refine aw_p 4061175 (
    .a 2 3 <| .p (cS #[.tmp 40, .tmp 41] #[39, 39] [sV 2 R2.length, sV 1 R1.length] [2, 1] [(2, (pB R2)), (1, (pB R1))] (.bool true) (fits_ok R2 R1 (-1) 1 zR2 fR2 zR1 fR1 F21) (.cons rS (.cons rS .nil)) ⟨rfl, bP, rfl, bP, trivial⟩ rF) <| .a 1 3 <| .nil _ _) ?_
  refine aw_fl 8122351 ?_
  refine aw_sk ?_
  refine block_normal ?_
  refine then_normal ?_
  refine aw_p1 (
    .a 2 3 <| .nil _ _) ?_
  refine then_normal ?_
  refine al_round ?_
  refine aw_p 126911 (
    .a 1 3 <| .nil _ _) ?_
  refine aw_sq 253822 253823 ?_
  refine aw_fl 507645 ?_
  refine aw_ex 4 ?_
  refine then_exit ?_
  refine then_exit ?_
  refine block_exit ?_
  refine block_normal ?_
  refine then_normal ?_
  refine aw_p1 (
    .a 2 3 <| .nil _ _) ?_
  refine then_normal ?_
  refine al_round ?_
  refine aw_p 495 (
    .a 1 3 <| .nil _ _) ?_
  refine aw_sq 990 991 ?_
  refine aw_fl 1981 ?_
  refine aw_ex 2 ?_
  refine then_exit ?_
  refine then_exit ?_
  refine block_exit ?_
  refine then_normal ?_
  refine aw_p 63 (
    .a 1 3 <| .nil _ _) ?_
  refine aw_rt ?_
  exact en_ret [.int .i64 0] (by kernel_rfl)
theorem adepth_o1 (R1 R2 : List (Int × Int)) (zR1 : 1 ≤ R1.length ∧ R1.length ≤ 200) (fR1 : Sp.Few 1000 R1) (zR2 : 1 ≤ R2.length ∧ R2.length ≤ 200) (fR2 : Sp.Few 1000 R2) (cR1 : Sp.chkF R1 = 0) (cR2 : Sp.chkF R2 = 0) (F21 : Sp.Fit R2 R1 (-1) 1) :
    AC Tryz.prog 27 3 ([sV 0 2]) [(0, ⟨[sV 1 R1.length, sV 2 R2.length], 39, true, 1⟩), (1, (pB R1)), (2, (pB R2))] (sV 3 2) [(0, ⟨[sV 1 R1.length, sV 2 R2.length], 39, true, 1⟩), (1, (pB R1)), (2, (pB R2)), (3, ⟨[.int .i64 1, .int .i64 0], 3, true, 1⟩)] := by
  refine ac_in Tryz.func27 (fun w0 W pin => ?_)
  refine aw_p 3 (
    .a 1 3 <| .nil _ _) ?_
  refine aw_sq 6 7 ?_
  refine aw_p 13 (
    .a 1 3 <| .p (cS #[.tmp 8] #[25] [sV 0 2] [0, 1, 2] [(0, ⟨[sV 1 R1.length, sV 2 R2.length], 39, true, 1⟩), (1, (pB R1)), (2, (pB R2))] (.int .i64 0) (acheck_o1 R1 R2 zR1 fR1 zR2 fR2 cR1 cR2 F21) (.cons rS .nil) ⟨rfl, ⟨rfl, rfl, rfl, (.cons rS (.cons rS .nil))⟩, rfl, bP, rfl, bP, trivial⟩ rF) <|
    .a 1 3 <| .nil _ _) ?_
  refine aw_fl 27 ?_
  refine aw_sk ?_
  refine then_normal ?_
  refine aw_p 15 (
    .a 2 3 <| .p (does_mk (kl := .i64) (kc := .i64) (n' := 2) (c' := 2) 3 3 1 8 2 2 (.int .i64 0) [.int .i64 0, .int .i64 0] (by kernel_rfl) (by kernel_rfl) (by kernel_rfl) (by kernel_rfl) (by decide) (by decide) (by decide) (by decide) (by decide)) <| .a 1 4 <| .nil _ _) ?_
  refine aw_sq 30 31 ?_
  refine aw_p 61 (
    .a 3 4 <| .nil _ _) ?_
  refine aw_bl 0 123 ?_
  refine aw_lp 247 ?_
  refine al_round ?_
  refine aw_p 495 (
    .a 1 4 <| .nil _ _) ?_
  refine aw_sq 990 991 ?_
  refine aw_tr 1980 ?_
  refine aw_sk ?_
  refine then_normal ?_
  refine aw_sq 1982 1983 ?_
  refine aw_bl 1 3965 ?_
  refine aw_p 7931 (
    .a 5 4 <| .nil _ _) ?_
  refine aw_p 15863 (
    .a 3 4 <| .nil _ _) ?_
  refine aw_bl 2 31727 ?_
  refine aw_lp 63455 ?_
  refine al_round ?_
  refine aw_p 126911 (
    .a 1 4 <| .nil _ _) ?_
  refine aw_sq 253822 253823 ?_
  refine aw_tr 507644 ?_
  refine aw_sk ?_
  refine then_normal ?_
  refine aw_sq 507646 507647 ?_
  refine aw_bl 3 1015293 ?_
  refine aw_p 2030587 (
    .a 5 4 <| .nil _ _) ?_
  refine aw_p 4061175 (
    .a 9 4 <| .nil _ _) ?_
  refine aw_fl 8122351 ?_
  refine aw_sk ?_
  refine block_normal ?_
  refine then_normal ?_
  refine aw_p1 (
    .a 2 4 <| .nil _ _) ?_
  refine then_normal ?_
  refine al_round ?_
  refine aw_p 126911 (
    .a 1 4 <| .nil _ _) ?_
  refine aw_sq 253822 253823 ?_
  refine aw_tr 507644 ?_
  refine aw_sk ?_
  refine then_normal ?_
  refine aw_sq 507646 507647 ?_
  refine aw_bl 3 1015293 ?_
  refine aw_p 2030587 (
    .a 5 4 <| .nil _ _) ?_
  refine aw_p 4061175 (
    .a 6 4 <|
    .p (cS (m := 2) (args0 := [sV 0 R1.length, .int .i64 0, sV 1 R2.length]) (pre0 := [(0, (pB R1)), (1, (pB R2))]) (v0 := .int .i64 1) #[.tmp 32, .const (.int .i64 0), .tmp 33] #[39, 3, 39] [sV 1 R1.length, .int .i64 0, sV 2 R2.length] [1, 2] [(1, (pB R1)), (2, (pB R2))] (.int .i64 1) ((by have h := side_ok R1 R2 zR1 fR1 zR2 fR2 0 (by omega); rw [Sp.side_at F21.2.2 (by omega)] at h; exact h)) (.cons rS (.cons rF (.cons rS .nil))) ⟨rfl, bP, rfl, bP, trivial⟩ rF) <|
    .a 2 4 <| .nil _ _) ?_
  refine aw_tr 8122350 ?_
  refine aw_p1 (
    .a 7 4 <| .nil _ _) ?_
  refine block_normal ?_
  refine then_normal ?_
  refine aw_p1 (
    .a 2 4 <| .nil _ _) ?_
  refine then_normal ?_
  refine al_round ?_
  refine aw_p 126911 (
    .a 1 4 <| .nil _ _) ?_
  refine aw_sq 253822 253823 ?_
  refine aw_fl 507645 ?_
  refine aw_ex 2 ?_
  refine then_exit ?_
  refine then_exit ?_
  refine block_exit ?_
  refine block_normal ?_
  refine then_normal ?_
  refine aw_p1 (
    .a 2 4 <| .nil _ _) ?_
  refine then_normal ?_
  refine al_round ?_
  refine aw_p 495 (
    .a 1 4 <| .nil _ _) ?_
  refine aw_sq 990 991 ?_
  refine aw_tr 1980 ?_
  refine aw_sk ?_
  refine then_normal ?_
  refine aw_sq 1982 1983 ?_
  refine aw_bl 1 3965 ?_
  refine aw_p 7931 (
    .a 5 4 <| .nil _ _) ?_
  refine aw_p 15863 (
    .a 3 4 <| .nil _ _) ?_
  refine aw_bl 2 31727 ?_
  refine aw_lp 63455 ?_
  refine al_round ?_
  refine aw_p 126911 (
    .a 1 4 <| .nil _ _) ?_
  refine aw_sq 253822 253823 ?_
  refine aw_tr 507644 ?_
  refine aw_sk ?_
  refine then_normal ?_
  refine aw_sq 507646 507647 ?_
  refine aw_bl 3 1015293 ?_
  refine aw_p 2030587 (
    .a 5 4 <| .nil _ _) ?_
  refine aw_p 4061175 (
    .a 6 4 <|
    .p (cS (m := 2) (args0 := [sV 0 R2.length, .int .i64 0, sV 1 R1.length]) (pre0 := [(0, (pB R2)), (1, (pB R1))]) (v0 := .int .i64 (-1)) #[.tmp 32, .const (.int .i64 0), .tmp 33] #[39, 3, 39] [sV 2 R2.length, .int .i64 0, sV 1 R1.length] [2, 1] [(2, (pB R2)), (1, (pB R1))] (.int .i64 (-1)) ((by have h := side_ok R2 R1 zR2 fR2 zR1 fR1 0 (by omega); rw [Sp.side_at F21.2.1 (by omega)] at h; exact h)) (.cons rS (.cons rF (.cons rS .nil))) ⟨rfl, bP, rfl, bP, trivial⟩ rF) <|
    .a 2 4 <| .nil _ _) ?_
  refine aw_fl 8122351 ?_
  refine aw_sk ?_
  refine block_normal ?_
  refine then_normal ?_
  refine aw_p1 (
    .a 2 4 <| .nil _ _) ?_
  refine then_normal ?_
  refine al_round ?_
  refine aw_p 126911 (
    .a 1 4 <| .nil _ _) ?_
  refine aw_sq 253822 253823 ?_
  refine aw_tr 507644 ?_
  refine aw_sk ?_
  refine then_normal ?_
  refine aw_sq 507646 507647 ?_
  refine aw_bl 3 1015293 ?_
  refine aw_p 2030587 (
    .a 5 4 <| .nil _ _) ?_
  refine aw_p 4061175 (
    .a 9 4 <| .nil _ _) ?_
  refine aw_fl 8122351 ?_
  refine aw_sk ?_
  refine block_normal ?_
  refine then_normal ?_
  refine aw_p1 (
    .a 2 4 <| .nil _ _) ?_
  refine then_normal ?_
  refine al_round ?_
  refine aw_p 126911 (
    .a 1 4 <| .nil _ _) ?_
  refine aw_sq 253822 253823 ?_
  refine aw_fl 507645 ?_
  refine aw_ex 2 ?_
  refine then_exit ?_
  refine then_exit ?_
  refine block_exit ?_
  refine block_normal ?_
  refine then_normal ?_
  refine aw_p1 (
    .a 2 4 <| .nil _ _) ?_
  refine then_normal ?_
  refine al_round ?_
  refine aw_p 495 (
    .a 1 4 <| .nil _ _) ?_
  refine aw_sq 990 991 ?_
  refine aw_fl 1981 ?_
  refine aw_ex 0 ?_
  refine then_exit ?_
  refine then_exit ?_
  refine block_exit ?_
  refine then_normal ?_
  refine aw_p 63 (
    .a 2 4 <| .nil _ _) ?_
  refine aw_rt ?_
  exact en_ret [sV 3 2] (by kernel_rfl)
theorem atwice_o1 (R1 R2 : List (Int × Int)) (zR1 : 1 ≤ R1.length ∧ R1.length ≤ 200) (fR1 : Sp.Few 1000 R1) (zR2 : 1 ≤ R2.length ∧ R2.length ≤ 200) (fR2 : Sp.Few 1000 R2) (cR1 : Sp.chkF R1 = 0) (cR2 : Sp.chkF R2 = 0) (F21 : Sp.Fit R2 R1 (-1) 1) (a1 a2 : Int) (t1 : Sp.twF R1 1 0 = a1) (b1 : -100000 ≤ a1 ∧ a1 ≤ 100000) (t2 : Sp.twF R2 1 0 = a2) (b2 : -100000 ≤ a2 ∧ a2 ≤ 100000) :
    AC Tryz.prog 10 3 ([sV 0 2]) [(0, ⟨[sV 1 R1.length, sV 2 R2.length], 39, true, 1⟩), (1, (pB R1)), (2, (pB R2))] (.int .i64 ((0 + (0 - (Sp.mx a1 (0 - a1)))) + (Sp.mx a2 (0 - a2)))) [(0, ⟨[sV 1 R1.length, sV 2 R2.length], 39, true, 1⟩), (1, (pB R1)), (2, (pB R2))] := by
  have m1 : 0 ≤ Sp.mx a1 (0 - a1) ∧ Sp.mx a1 (0 - a1) ≤ 100000 := (by unfold Sp.mx; split <;> omega); have m2 : 0 ≤ Sp.mx a2 (0 - a2) ∧ Sp.mx a2 (0 - a2) ≤ 100000 := (by unfold Sp.mx; split <;> omega)
  refine ac_in Tryz.func10 (fun w0 W pin => ?_)
  refine aw_p 3 (
    .a 1 3 <| .nil _ _) ?_
  refine aw_p 7 (
    .a 1 3 <| .nil _ _) ?_
  refine aw_sq 14 15 ?_
  refine aw_p 29 (
    .a 1 3 <|
    .p (cF #[.tmp 7] #[25] [sV 0 2] 1 [0, 1, 2, 3] [(0, ⟨[sV 1 R1.length, sV 2 R2.length], 39, true, 1⟩), (1, (pB R1)), (2, (pB R2))] [(0, ⟨[sV 1 R1.length, sV 2 R2.length], 39, true, 1⟩), (1, (pB R1)), (2, (pB R2)), (3, ⟨[.int .i64 1, .int .i64 0], 3, true, 1⟩)] (sV 3 2) (adepth_o1 R1 R2 zR1 fR1 zR2 fR2 cR1 cR2 F21) (.cons rS .nil) ⟨rfl, ⟨rfl, rfl, rfl, (.cons rS (.cons rS .nil))⟩, rfl, bP, rfl, bP, trivial⟩ ⟨rfl, ⟨rfl, rfl, rfl, (.cons rS (.cons rS .nil))⟩, rfl, bP, rfl, bP, rfl, ⟨rfl, rfl, rfl, (.flats (by kernel_rfl))⟩, trivial⟩ rS) <|
    .a 2 4 <| .nil _ _) ?_
  refine aw_bl 0 59 ?_
  refine aw_lp 119 ?_
  refine al_round ?_
  refine aw_p 239 (
    .a 1 4 <| .nil _ _) ?_
  refine aw_sq 478 479 ?_
  refine aw_tr 956 ?_
  refine aw_sk ?_
  refine then_normal ?_
  refine aw_sq 958 959 ?_
  refine aw_bl 1 1917 ?_
  refine aw_p 3835 (
    .a 5 4 <| .nil _ _) ?_
  refine aw_p 7671 (
    .a 4 4 <| .p (cS (m := 1) (args0 := [sV 0 R1.length]) (pre0 := [(0, (pB R1))]) (v0 := .int .i64 a1) #[.tmp 18] #[39] [sV 1 R1.length] [1] [(1, (pB R1))] (.int .i64 a1) ((by have h := twicen_own R1 R1.length rfl (by omega); rw [t1] at h; exact h)) (.cons rS .nil) ⟨rfl, bP, trivial⟩ rF) <| .a 1 4 <| .nil _ _) ?_
  refine aw_p 15343 (
    .a 2 4 <| .p (does_i (0 - a1) (wrap_i64 (by omega) (by omega)) .i64) <| .a 2 4 <| .nil _ _) ?_
  refine aw_sq 30686 30687 ?_
  refine aw_p 61373 (
    .a 3 4 <| .nil _ _) ?_
  refine aw_tr 122746 ?_
  refine aw_p1 (
    .a 1 4 <| .p (does_i (0 - (Sp.mx a1 (0 - a1))) (wrap_i64 (by omega) (by omega)) .i64) <| .a 1 4 <| .nil _ _) ?_
  refine then_normal ?_
  refine aw_p1 (
    .a 2 4 <| .p (does_i (0 + (0 - (Sp.mx a1 (0 - a1)))) (wrap_i64 (by omega) (by omega)) .i64) <| .a 1 4 <| .nil _ _) ?_
  refine block_normal ?_
  refine then_normal ?_
  refine aw_p1 (
    .a 2 4 <| .nil _ _) ?_
  refine then_normal ?_
  refine al_round ?_
  refine aw_p 239 (
    .a 1 4 <| .nil _ _) ?_
  refine aw_sq 478 479 ?_
  refine aw_tr 956 ?_
  refine aw_sk ?_
  refine then_normal ?_
  refine aw_sq 958 959 ?_
  refine aw_bl 1 1917 ?_
  refine aw_p 3835 (
    .a 5 4 <| .nil _ _) ?_
  refine aw_p 7671 (
    .a 4 4 <| .p (cS (m := 1) (args0 := [sV 0 R2.length]) (pre0 := [(0, (pB R2))]) (v0 := .int .i64 a2) #[.tmp 18] #[39] [sV 2 R2.length] [2] [(2, (pB R2))] (.int .i64 a2) ((by have h := twicen_own R2 R2.length rfl (by omega); rw [t2] at h; exact h)) (.cons rS .nil) ⟨rfl, bP, trivial⟩ rF) <| .a 1 4 <| .nil _ _) ?_
  refine aw_p 15343 (
    .a 2 4 <| .p (does_i (0 - a2) (wrap_i64 (by omega) (by omega)) .i64) <| .a 2 4 <| .nil _ _) ?_
  refine aw_sq 30686 30687 ?_
  refine aw_p 61373 (
    .a 3 4 <| .nil _ _) ?_
  refine aw_fl 122747 ?_
  refine aw_sk ?_
  refine then_normal ?_
  refine aw_p1 (
    .a 2 4 <| .p (does_i ((0 + (0 - (Sp.mx a1 (0 - a1)))) + (Sp.mx a2 (0 - a2))) (wrap_i64 (by omega) (by omega)) .i64) <| .a 1 4 <| .nil _ _) ?_
  refine block_normal ?_
  refine then_normal ?_
  refine aw_p1 (
    .a 2 4 <| .nil _ _) ?_
  refine then_normal ?_
  refine al_round ?_
  refine aw_p 239 (
    .a 1 4 <| .nil _ _) ?_
  refine aw_sq 478 479 ?_
  refine aw_fl 957 ?_
  refine aw_ex 0 ?_
  refine then_exit ?_
  refine then_exit ?_
  refine block_exit ?_
  refine then_normal ?_
  refine aw_p 31 (
    .a 2 4 <| .nil _ _) ?_
  refine aw_rt ?_
  exact en_ret [.int .i64 ((0 + (0 - (Sp.mx a1 (0 - a1)))) + (Sp.mx a2 (0 - a2)))] (by kernel_rfl)
end Go.Proofs.YtndkhgfecnbmnaaGreat.Am
