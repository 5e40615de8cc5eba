/-
  The walks of a line without the points that are near it.
-/
import Derived.Test.YtadifmimefmcnaaProg
import Derived.Test.YtadifmimefmcnaaAm16
import Derived.Test.YtadifmimefmcnaaTm
namespace Go.Proofs.Ytadifmimefmcnaa.Am
open Go Go.Proofs
set_option maxRecDepth 100000
set_option maxHeartbeats 4000000
set_option linter.unusedVariables false
set_option linter.unusedSimpArgs false

theorem tline_short_ro (ps qs : List (Int × Int)) (hq : ps.map Sp.lmP = qs) (hz : ps.length ≤ 8796093021952) (tol : Int) (h3 : qs.length < 3) :
    AC Try.prog 16 1 ([.slice (some ⟨0, 0, none⟩) ps.length 0, .int .i64 tol]) [(0, ⟨(ps.flatMap ptc), 29, false, 2⟩)] (.slice (some ⟨1, 0, none⟩) qs.length 0) [(1, ⟨(qs.flatMap ptc), 29, true, 2⟩)] := by
  have hql : qs.length = ps.length := (by rw [← hq, List.length_map]); have hf : Sp.Few 1048576 qs := (hq ▸ Sp.few_lim ps)
  refine ac_in Try.func16 (fun w0 W pin => ?_)
  refine aw_p 3 (
    .a 1 1 <| .nil _ _) ?_
  refine aw_p 7 (
    .a 2 1 <| .p (does_mk (kl := .i64) (kc := .i64) (n' := 0) (c' := ((ps.length : Nat) : Int)) 1 29 2 16 0 ps.length (.agg #[.int .i64 0, .int .i64 0]) [] (by kernel_rfl) (by kernel_rfl) (by kernel_rfl) (by kernel_rfl) (by decide) rfl (by omega) (by omega) (by omega)) <| .a 1 2 <| .nil _ _) ?_
  refine aw_sq 14 15 ?_
  refine aw_p 29 (
    .a 3 2 <| .nil _ _) ?_
  refine aw_bl 0 59 ?_
  refine aw_lp 119 ?_
  refine al_w [(1, .int .i64 tol), (5, .slice (some ⟨1, 0, none⟩) 0 0), (15, .slice (some ⟨0, 0, none⟩) ps.length 0), (16, .int .i64 ((ps.length : Nat) : Int)), (17, .int .i64 ((0 : Nat) : Int))] [(0, ⟨(ps.flatMap ptc), 29, false, 2⟩), (1, ⟨(((ps.take 0).map Sp.lmP).flatMap ptc), 29, true, 2⟩)] ?_ (hc := (by simp [closedB, valsB, valB, List.all_eq_true, List.mem_flatMap, List.mem_range, List.mem_map, i64v, ptc, boolv, flat1]; try (intros; simp [valsB, valB, flat1]); try decide))
  refine al_ind (fun i : Nat => (fun (i : Nat) => mkSt 1 [(1, .int .i64 tol), (5, .slice (some ⟨1, 0, none⟩) i 0), (15, .slice (some ⟨0, 0, none⟩) ps.length 0), (16, .int .i64 ((ps.length : Nat) : Int)), (17, .int .i64 ((i : Nat) : Int))] [(0, ⟨(ps.flatMap ptc), 29, false, 2⟩), (1, ⟨(((ps.take i).map Sp.lmP).flatMap ptc), 29, true, 2⟩)]) i) (fun i : Nat => (fun (i : Nat) => (i ≤ ps.length)) i) (fun i : Nat => (fun (i : Nat) => ps.length - i) i) (fun i hi1 ih1 => ?_) 0 (show (0 ≤ ps.length) from by omega)
  obtain ⟨i, hv1⟩ : ∃ z, z = i := ⟨i, rfl⟩; subst hv1
  have hi1' : (i ≤ ps.length) := hi1
  have hi : i ≤ ps.length := hi1'
  show AL _ _ _ (mkSt 1 [(1, .int .i64 tol), (5, .slice (some ⟨1, 0, none⟩) i 0), (15, .slice (some ⟨0, 0, none⟩) ps.length 0), (16, .int .i64 ((ps.length : Nat) : Int)), (17, .int .i64 ((i : Nat) : Int))] [(0, ⟨(ps.flatMap ptc), 29, false, 2⟩), (1, ⟨(((ps.take i).map Sp.lmP).flatMap ptc), 29, true, 2⟩)]) _
  refine al_round ?_
  refine aw_p 239 (
    .a 1 2 <| .nil _ _) ?_
  refine aw_sq 478 479 ?_
  refine aw_cd 956 957 (decide (((i : Nat) : Int) < ((ps.length : Nat) : Int))) (fun h1 => ?_) (fun h1 => ?_)
  · have h1p : ((((i : Nat) : Int) < ((ps.length : Nat) : Int))) := by first | (simpa using h1) | (have h1q := h1; simp at h1q; omega) | (have h1q := bx1 h1; simp at h1q; omega)
    have hil : i < ps.length := by omega
    refine aw_sk ?_
    refine then_normal ?_
    refine aw_sq 958 959 ?_
    refine aw_bl 1 1917 ?_
    refine aw_p 3835 (
      .p (does_indexSlice (t := 24) (x := .tmp 15) (y := .tmp 17) (k := 0) (off := 0) (n := ps.length) (c := 0) (z := 2) (kd := .i64) (j := ((i : Nat) : Int)) (by kernel_rfl) (by kernel_rfl) (by kernel_rfl) (by kernel_rfl) (by kernel_rfl) (by omega) (by omega)) <|
      .p (does_load (t := 29) (x := .tmp 19) (k := 0) (off := (0 + (((i : Nat) : Int)).toNat * 2)) (b := ⟨(ps.flatMap ptc), 29, false, 2⟩) (v := .agg #[.int .i64 ((ps.getD i (0, 0)).1), .int .i64 ((ps.getD i (0, 0)).2)]) (by kernel_rfl) (by kernel_rfl) (by kernel_rfl) (ldV_pair (j := i) (by kernel_rfl) (by kernel_rfl) (by omega) (by first | omega | (simp only [Sp.setJ_len, Sp.kp0_len, List.length_set, List.length_replicate]; omega)))) <|
      .a 2 2 <| .nil _ _) ?_
    refine aw_p1 (
      .a 2 3 <| .p (does_c (clamp_ok ((ps.getD i (0, 0)).1) ((ps.getD i (0, 0)).2))) <| .a 1 3 <|
      .p (does_apy 4 29 2 16 1 i 3 1 ⟨(((ps.take i).map Sp.lmP).flatMap ptc), 29, true, 2⟩ ⟨[.int .i64 (Sp.lim 1048576 ((ps.getD i (0, 0)).1)), .int .i64 (Sp.lim 1048576 ((ps.getD i (0, 0)).2))], 29, true, 2⟩ (((ps.take (i + 1)).map Sp.lmP).flatMap ptc) (by kernel_rfl) (by kernel_rfl) (by kernel_rfl) (by kernel_rfl) (by kernel_rfl) (by show ((((ps.take i).map Sp.lmP).flatMap ptc)).length = _; rw [pairs_length]; simp; omega) (by omega) (by omega) (Sp.snoc_take hil rfl)) <|
      .a 1 5 <| .nil _ _) ?_
    refine block_normal ?_
    refine then_normal ?_
    refine aw_p1 (
      .p (does_i (((i : Nat) : Int) + 1) (wrap_i64 (by omega) (by omega)) .i64) <| .a 1 5 <| .nil _ _) ?_
    refine then_normal ?_
    refine al_r [(1, 4)] [(1, .int .i64 tol), (5, .slice (some ⟨4, 0, none⟩) (i + 1) 0), (15, .slice (some ⟨0, 0, none⟩) ps.length 0), (16, .int .i64 ((ps.length : Nat) : Int)), (17, .int .i64 (((i + 1) : Nat) : Int))] [(0, ⟨(ps.flatMap ptc), 29, false, 2⟩), (4, ⟨(((ps.take (i + 1)).map Sp.lmP).flatMap ptc), 29, true, 2⟩)] [(1, .int .i64 tol), (5, .slice (some ⟨1, 0, none⟩) (i + 1) 0), (15, .slice (some ⟨0, 0, none⟩) ps.length 0), (16, .int .i64 ((ps.length : Nat) : Int)), (17, .int .i64 (((i + 1) : Nat) : Int))] [(0, ⟨(ps.flatMap ptc), 29, false, 2⟩), (1, ⟨(((ps.take (i + 1)).map Sp.lmP).flatMap ptc), 29, true, 2⟩)] ?_ ⟨rfl, (.flatB (by kernel_rfl)), rfl, (.slice _ _ _ _ _ rfl), rfl, (.slice _ _ _ _ _ rfl), rfl, (.flatB (by kernel_rfl)), rfl, (.flatB (by kernel_rfl)), trivial⟩ ⟨rfl, ⟨rfl, rfl, rfl, (.flats (flats_pair _))⟩, rfl, ⟨rfl, rfl, rfl, (.flats (flats_pair _))⟩, trivial⟩
    exact ih1 (i + 1) (show ((i + 1) ≤ ps.length) from by omega) (show ps.length - (i + 1) < ps.length - i from by omega)
  · have h1p : ¬ ((((i : Nat) : Int) < ((ps.length : Nat) : Int))) := by first | (simpa using h1) | (have h1q := h1; simp at h1q; omega) | (have h1q := bx2 h1; simp at h1q; omega)
    have hin : i = ps.length := by omega
    refine aw_ex 0 ?_
    refine then_exit ?_
    refine then_exit ?_
    refine block_exit ?_
    refine then_normal ?_
    refine aw_w [(1, .int .i64 tol), (5, .slice (some ⟨1, 0, none⟩) qs.length 0)] [(0, ⟨(ps.flatMap ptc), 29, false, 2⟩), (1, ⟨(qs.flatMap ptc), 29, true, 2⟩)] ?_ (by (try (first | rw [show qs.length = i from (by omega)] | rw [show qs = (ps.take i).map Sp.lmP from (by rw [hin, List.take_length, hq])])); kernel_rfl) (by (try (first | rw [show qs.length = i from (by omega)] | rw [show qs = (ps.take i).map Sp.lmP from (by rw [hin, List.take_length, hq])])); kernel_rfl) (hc := (by simp [closedB, valsB, valB, List.all_eq_true, List.mem_flatMap, List.mem_range, List.mem_map, i64v, ptc, boolv, flat1]; try (intros; simp [valsB, valB, flat1]); try decide))
    refine aw_sq 30 31 ?_
    refine aw_p 61 (
      .a 2 2 <| .p (does_b true ((show (decide (((qs.length : Nat) : Int) < 3)) = true from decide_eq_true (by omega)))) <| .nil _ _) ?_
    refine aw_tr 122 ?_
    refine aw_p 245 (
      .a 2 2 <| .nil _ _) ?_
    refine aw_rt ?_
    refine then_ret ?_
    exact en_ret [.slice (some ⟨1, 0, none⟩) qs.length 0] (by kernel_rfl)

theorem tline_long_ro (ps qs ys : List (Int × Int)) (hq : ps.map Sp.lmP = qs) (hz : ps.length ≤ 8796093021952) (tol : Int) (h3 : 3 ≤ qs.length) (J : List Nat) (hJ : Sp.ThinP qs tol 0 (qs.length - 1) J) (hy : Sp.slF qs (Sp.setJ (Sp.kp0 qs.length) J) qs.length = ys) :
    AC Try.prog 16 1 ([.slice (some ⟨0, 0, none⟩) ps.length 0, .int .i64 tol]) [(0, ⟨(ps.flatMap ptc), 29, false, 2⟩)] (.slice (some ⟨1, 0, none⟩) ys.length 0) [(1, ⟨(ys.flatMap ptc), 29, true, 2⟩)] := by
  have hql : qs.length = ps.length := (by rw [← hq, List.length_map]); have hf : Sp.Few 1048576 qs := (hq ▸ Sp.few_lim ps)
  refine ac_in Try.func16 (fun w0 W pin => ?_)
  refine aw_p 3 (
    .a 1 1 <| .nil _ _) ?_
  refine aw_p 7 (
    .a 2 1 <| .p (does_mk (kl := .i64) (kc := .i64) (n' := 0) (c' := ((ps.length : Nat) : Int)) 1 29 2 16 0 ps.length (.agg #[.int .i64 0, .int .i64 0]) [] (by kernel_rfl) (by kernel_rfl) (by kernel_rfl) (by kernel_rfl) (by decide) rfl (by omega) (by omega) (by omega)) <| .a 1 2 <| .nil _ _) ?_
  refine aw_sq 14 15 ?_
  refine aw_p 29 (
    .a 3 2 <| .nil _ _) ?_
  refine aw_bl 0 59 ?_
  refine aw_lp 119 ?_
  refine al_w [(1, .int .i64 tol), (5, .slice (some ⟨1, 0, none⟩) 0 0), (15, .slice (some ⟨0, 0, none⟩) ps.length 0), (16, .int .i64 ((ps.length : Nat) : Int)), (17, .int .i64 ((0 : Nat) : Int))] [(0, ⟨(ps.flatMap ptc), 29, false, 2⟩), (1, ⟨(((ps.take 0).map Sp.lmP).flatMap ptc), 29, true, 2⟩)] ?_ (hc := (by simp [closedB, valsB, valB, List.all_eq_true, List.mem_flatMap, List.mem_range, List.mem_map, i64v, ptc, boolv, flat1]; try (intros; simp [valsB, valB, flat1]); try decide))
  refine al_ind (fun i : Nat => (fun (i : Nat) => mkSt 1 [(1, .int .i64 tol), (5, .slice (some ⟨1, 0, none⟩) i 0), (15, .slice (some ⟨0, 0, none⟩) ps.length 0), (16, .int .i64 ((ps.length : Nat) : Int)), (17, .int .i64 ((i : Nat) : Int))] [(0, ⟨(ps.flatMap ptc), 29, false, 2⟩), (1, ⟨(((ps.take i).map Sp.lmP).flatMap ptc), 29, true, 2⟩)]) i) (fun i : Nat => (fun (i : Nat) => (i ≤ ps.length)) i) (fun i : Nat => (fun (i : Nat) => ps.length - i) i) (fun i hi1 ih1 => ?_) 0 (show (0 ≤ ps.length) from by omega)
  obtain ⟨i, hv1⟩ : ∃ z, z = i := ⟨i, rfl⟩; subst hv1
  have hi1' : (i ≤ ps.length) := hi1
  have hi : i ≤ ps.length := hi1'
  show AL _ _ _ (mkSt 1 [(1, .int .i64 tol), (5, .slice (some ⟨1, 0, none⟩) i 0), (15, .slice (some ⟨0, 0, none⟩) ps.length 0), (16, .int .i64 ((ps.length : Nat) : Int)), (17, .int .i64 ((i : Nat) : Int))] [(0, ⟨(ps.flatMap ptc), 29, false, 2⟩), (1, ⟨(((ps.take i).map Sp.lmP).flatMap ptc), 29, true, 2⟩)]) _
  refine al_round ?_
  refine aw_p 239 (
    .a 1 2 <| .nil _ _) ?_
  refine aw_sq 478 479 ?_
  refine aw_cd 956 957 (decide (((i : Nat) : Int) < ((ps.length : Nat) : Int))) (fun h1 => ?_) (fun h1 => ?_)
  · have h1p : ((((i : Nat) : Int) < ((ps.length : Nat) : Int))) := by first | (simpa using h1) | (have h1q := h1; simp at h1q; omega) | (have h1q := bx1 h1; simp at h1q; omega)
    have hil : i < ps.length := by omega
    refine aw_sk ?_
    refine then_normal ?_
    refine aw_sq 958 959 ?_
    refine aw_bl 1 1917 ?_
    refine aw_p 3835 (
      .p (does_indexSlice (t := 24) (x := .tmp 15) (y := .tmp 17) (k := 0) (off := 0) (n := ps.length) (c := 0) (z := 2) (kd := .i64) (j := ((i : Nat) : Int)) (by kernel_rfl) (by kernel_rfl) (by kernel_rfl) (by kernel_rfl) (by kernel_rfl) (by omega) (by omega)) <|
      .p (does_load (t := 29) (x := .tmp 19) (k := 0) (off := (0 + (((i : Nat) : Int)).toNat * 2)) (b := ⟨(ps.flatMap ptc), 29, false, 2⟩) (v := .agg #[.int .i64 ((ps.getD i (0, 0)).1), .int .i64 ((ps.getD i (0, 0)).2)]) (by kernel_rfl) (by kernel_rfl) (by kernel_rfl) (ldV_pair (j := i) (by kernel_rfl) (by kernel_rfl) (by omega) (by first | omega | (simp only [Sp.setJ_len, Sp.kp0_len, List.length_set, List.length_replicate]; omega)))) <|
      .a 2 2 <| .nil _ _) ?_
    refine aw_p1 (
      .a 2 3 <| .p (does_c (clamp_ok ((ps.getD i (0, 0)).1) ((ps.getD i (0, 0)).2))) <| .a 1 3 <|
      .p (does_apy 4 29 2 16 1 i 3 1 ⟨(((ps.take i).map Sp.lmP).flatMap ptc), 29, true, 2⟩ ⟨[.int .i64 (Sp.lim 1048576 ((ps.getD i (0, 0)).1)), .int .i64 (Sp.lim 1048576 ((ps.getD i (0, 0)).2))], 29, true, 2⟩ (((ps.take (i + 1)).map Sp.lmP).flatMap ptc) (by kernel_rfl) (by kernel_rfl) (by kernel_rfl) (by kernel_rfl) (by kernel_rfl) (by show ((((ps.take i).map Sp.lmP).flatMap ptc)).length = _; rw [pairs_length]; simp; omega) (by omega) (by omega) (Sp.snoc_take hil rfl)) <|
      .a 1 5 <| .nil _ _) ?_
    refine block_normal ?_
    refine then_normal ?_
    refine aw_p1 (
      .p (does_i (((i : Nat) : Int) + 1) (wrap_i64 (by omega) (by omega)) .i64) <| .a 1 5 <| .nil _ _) ?_
    refine then_normal ?_
    refine al_r [(1, 4)] [(1, .int .i64 tol), (5, .slice (some ⟨4, 0, none⟩) (i + 1) 0), (15, .slice (some ⟨0, 0, none⟩) ps.length 0), (16, .int .i64 ((ps.length : Nat) : Int)), (17, .int .i64 (((i + 1) : Nat) : Int))] [(0, ⟨(ps.flatMap ptc), 29, false, 2⟩), (4, ⟨(((ps.take (i + 1)).map Sp.lmP).flatMap ptc), 29, true, 2⟩)] [(1, .int .i64 tol), (5, .slice (some ⟨1, 0, none⟩) (i + 1) 0), (15, .slice (some ⟨0, 0, none⟩) ps.length 0), (16, .int .i64 ((ps.length : Nat) : Int)), (17, .int .i64 (((i + 1) : Nat) : Int))] [(0, ⟨(ps.flatMap ptc), 29, false, 2⟩), (1, ⟨(((ps.take (i + 1)).map Sp.lmP).flatMap ptc), 29, true, 2⟩)] ?_ ⟨rfl, (.flatB (by kernel_rfl)), rfl, (.slice _ _ _ _ _ rfl), rfl, (.slice _ _ _ _ _ rfl), rfl, (.flatB (by kernel_rfl)), rfl, (.flatB (by kernel_rfl)), trivial⟩ ⟨rfl, ⟨rfl, rfl, rfl, (.flats (flats_pair _))⟩, rfl, ⟨rfl, rfl, rfl, (.flats (flats_pair _))⟩, trivial⟩
    exact ih1 (i + 1) (show ((i + 1) ≤ ps.length) from by omega) (show ps.length - (i + 1) < ps.length - i from by omega)
  · have h1p : ¬ ((((i : Nat) : Int) < ((ps.length : Nat) : Int))) := by first | (simpa using h1) | (have h1q := h1; simp at h1q; omega) | (have h1q := bx2 h1; simp at h1q; omega)
    have hin : i = ps.length := by omega
    refine aw_ex 0 ?_
    refine then_exit ?_
    refine then_exit ?_
    refine block_exit ?_
    refine then_normal ?_
    refine aw_w [(1, .int .i64 tol), (5, .slice (some ⟨1, 0, none⟩) qs.length 0)] [(0, ⟨(ps.flatMap ptc), 29, false, 2⟩), (1, ⟨(qs.flatMap ptc), 29, true, 2⟩)] ?_ (by (try (first | rw [show qs.length = i from (by omega)] | rw [show qs = (ps.take i).map Sp.lmP from (by rw [hin, List.take_length, hq])])); kernel_rfl) (by (try (first | rw [show qs.length = i from (by omega)] | rw [show qs = (ps.take i).map Sp.lmP from (by rw [hin, List.take_length, hq])])); kernel_rfl) (hc := (by simp [closedB, valsB, valB, List.all_eq_true, List.mem_flatMap, List.mem_range, List.mem_map, i64v, ptc, boolv, flat1]; try (intros; simp [valsB, valB, flat1]); try decide))
    refine aw_sq 30 31 ?_
    refine aw_p 61 (
      .a 2 2 <| .p (does_b false ((show (decide (((qs.length : Nat) : Int) < 3)) = false from decide_eq_false (by omega)))) <| .nil _ _) ?_
    refine aw_fl 123 ?_
    refine aw_sk ?_
    refine then_normal ?_
    refine aw_p 63 (
      .a 2 2 <|
      .p (does_mk (kl := .i64) (kc := .i64) (n' := ((qs.length : Nat) : Int)) (c' := ((qs.length : Nat) : Int)) 2 4 1 1 qs.length qs.length (.bool false) ((List.replicate qs.length false).map boolv) (by kernel_rfl) (by kernel_rfl) (flat_bools _) (made_bools _) rfl rfl (Nat.le_refl _) (by omega) (by omega)) <|
      .a 1 3 <| .nil _ _) ?_
    refine aw_p 127 (
      .a 4 3 <| .p (does_i ((qs.length - 1 : Nat) : Int) ((show (IntKind.wrap .i64 (((qs.length : Nat) : Int) - 1)) = ((qs.length - 1 : Nat) : Int) from ((wrap_i64 (by omega) (by omega)).trans (by omega)))) .i64) <|
      .p (does_indexSlice (t := 68) (x := .tmp 34) (y := .const (.int .i64 0)) (k := 2) (off := 0) (n := qs.length) (c := 0) (z := 1) (kd := .i64) (j := 0) (by kernel_rfl) (by kernel_rfl) (by kernel_rfl) (by kernel_rfl) (by kernel_rfl) (by omega) (by omega)) <|
      .p (does_store (t := 4) (x := .tmp 39) (y := .const (.bool true)) (k := 2) (off := 0) (b := ⟨((List.replicate qs.length false).map boolv), 4, true, 1⟩) (v := .bool true) (cells := (((List.replicate qs.length false).set 0 true).map boolv)) (by kernel_rfl) (by kernel_rfl) (by kernel_rfl) (by kernel_rfl) (by kernel_rfl) (by kernel_rfl) (by kernel_rfl) (Nat.ble_eq_true_of_le (by show _ + 1 ≤ ((List.replicate qs.length false).map boolv).length; rw [List.length_map]; first | omega | (simp only [Sp.setJ_len, Sp.kp0_len, List.length_set, List.length_replicate]; omega))) (by rw [show 0 = 0 from (by omega)]; exact set_map rfl)) <|
      .p (does_indexSlice (t := 68) (x := .tmp 35) (y := .tmp 38) (k := 2) (off := 0) (n := qs.length) (c := 0) (z := 1) (kd := .i64) (j := ((qs.length - 1 : Nat) : Int)) (by kernel_rfl) (by kernel_rfl) (by kernel_rfl) (by kernel_rfl) (by kernel_rfl) (by omega) (by omega)) <|
      .p (does_store (t := 4) (x := .tmp 40) (y := .const (.bool true)) (k := 2) (off := (0 + (((qs.length - 1 : Nat) : Int)).toNat * 1)) (b := ⟨(((List.replicate qs.length false).set 0 true).map boolv), 4, true, 1⟩) (v := .bool true) (cells := ((((List.replicate qs.length false).set 0 true).set (qs.length - 1) true).map boolv)) (by kernel_rfl) (by kernel_rfl) (by kernel_rfl) (by kernel_rfl) (by kernel_rfl) (by kernel_rfl) (by kernel_rfl) (Nat.ble_eq_true_of_le (by show _ + 1 ≤ (((List.replicate qs.length false).set 0 true).map boolv).length; rw [List.length_map]; first | omega | (simp only [Sp.setJ_len, Sp.kp0_len, List.length_set, List.length_replicate]; omega))) (by rw [show (0 + (((qs.length - 1 : Nat) : Int)).toNat * 1) = (qs.length - 1) from (by omega)]; exact set_map rfl)) <| .nil _ _) ?_
    refine aw_p 255 (
      .a 4 3 <| .p (does_i ((qs.length - 1 : Nat) : Int) ((show (IntKind.wrap .i64 (((qs.length : Nat) : Int) - 1)) = ((qs.length - 1 : Nat) : Int) from ((wrap_i64 (by omega) (by omega)).trans (by omega)))) .i64) <| .a 1 3 <|
      .p (does_callB (x := .func 57) (ars := #[.tmp 41, .tmp 42, .const (.int .i64 0), .tmp 45, .tmp 46]) (ats := #[24, 68, 3, 3, 3]) (g := 57) (vs := [.slice (some ⟨1, 0, none⟩) qs.length 0, .slice (some ⟨2, 0, none⟩) qs.length 0, .int .i64 0, .int .i64 ((qs.length - 1 : Nat) : Int), .int .i64 tol]) (m := 2) (r := 0) (firsts := #[]) (caps := #[]) (args0 := [.slice (some ⟨0, 0, none⟩) qs.length 0, .slice (some ⟨1, 0, none⟩) qs.length 0, .int .i64 ((0 : Nat) : Int), .int .i64 ((qs.length - 1 : Nat) : Int), .int .i64 tol]) (pre0 := [(0, ⟨(qs.flatMap ptc), 29, true, 2⟩), (1, ⟨((Sp.kp0 qs.length).map boolv), 4, true, 1⟩)]) (post0 := [(0, ⟨(qs.flatMap ptc), 29, true, 2⟩), (1, ⟨((Sp.setJ (Sp.kp0 qs.length) J).map boolv), 4, true, 1⟩)]) (pre := [(1, ⟨(qs.flatMap ptc), 29, true, 2⟩), (2, ⟨((((List.replicate qs.length false).set 0 true).set (qs.length - 1) true).map boolv), 4, true, 1⟩)]) (post := [(1, ⟨(qs.flatMap ptc), 29, true, 2⟩), (2, ⟨((Sp.setJ (Sp.kp0 qs.length) J).map boolv), 4, true, 1⟩)]) (v0 := .tuple #[]) (v := .tuple #[]) [1, 2] (by kernel_rfl) (by kernel_rfl) (by kernel_rfl) (by kernel_rfl) (mark_ok qs hf (by omega) tol hJ (by omega) (Sp.kp0 qs.length) (Sp.kp0_len _)) (.cons (.slice _ _ _ _ _ (by decide)) (.cons (.slice _ _ _ _ _ (by decide)) (.cons (.flatB (by kernel_rfl)) (.cons (.flatB (by kernel_rfl)) (.cons (.flatB (by kernel_rfl)) .nil))))) ⟨rfl, ⟨rfl, rfl, rfl, (.flats (flats_pair _))⟩, rfl, ⟨rfl, rfl, rfl, (.flats (flats_map (fun _ => rfl) _))⟩, trivial⟩ (by kernel_rfl) (by kernel_rfl) (by kernel_rfl) ⟨rfl, ⟨rfl, rfl, rfl, (.flats (flats_pair _))⟩, rfl, ⟨rfl, rfl, rfl, (.flats (flats_map (fun _ => rfl) _))⟩, trivial⟩ (.flatB (by kernel_rfl))) <| .nil _ _) ?_
    refine aw_p 511 (
      .a 2 3 <| .p (does_mk (kl := .i64) (kc := .i64) (n' := 0) (c' := ((qs.length : Nat) : Int)) 3 29 2 16 0 qs.length (.agg #[.int .i64 0, .int .i64 0]) [] (by kernel_rfl) (by kernel_rfl) (by kernel_rfl) (by kernel_rfl) (by decide) rfl (by omega) (by omega) (by omega)) <| .a 1 4 <| .nil _ _) ?_
    refine aw_sq 1022 1023 ?_
    refine aw_p 2045 (
      .a 3 4 <| .nil _ _) ?_
    refine aw_bl 2 4091 ?_
    refine aw_lp 8183 ?_
    refine al_w [(8, .slice (some ⟨2, 0, none⟩) qs.length 0), (9, .slice (some ⟨3, 0, none⟩) ((Sp.slF qs (Sp.setJ (Sp.kp0 qs.length) J) 0).length) 0), (51, .slice (some ⟨1, 0, none⟩) qs.length 0), (52, .int .i64 ((qs.length : Nat) : Int)), (53, .int .i64 ((0 : Nat) : Int))] [(0, ⟨(ps.flatMap ptc), 29, false, 2⟩), (1, ⟨(qs.flatMap ptc), 29, true, 2⟩), (2, ⟨((Sp.setJ (Sp.kp0 qs.length) J).map boolv), 4, true, 1⟩), (3, ⟨((Sp.slF qs (Sp.setJ (Sp.kp0 qs.length) J) 0).flatMap ptc), 29, true, 2⟩)] ?_ (hc := (by simp [closedB, valsB, valB, List.all_eq_true, List.mem_flatMap, List.mem_range, List.mem_map, i64v, ptc, boolv, flat1]; try (intros; simp [valsB, valB, flat1]); try decide))
    refine al_ind (fun i : Nat => (fun (i : Nat) => mkSt 1 [(8, .slice (some ⟨2, 0, none⟩) qs.length 0), (9, .slice (some ⟨3, 0, none⟩) ((Sp.slF qs (Sp.setJ (Sp.kp0 qs.length) J) i).length) 0), (51, .slice (some ⟨1, 0, none⟩) qs.length 0), (52, .int .i64 ((qs.length : Nat) : Int)), (53, .int .i64 ((i : Nat) : Int))] [(0, ⟨(ps.flatMap ptc), 29, false, 2⟩), (1, ⟨(qs.flatMap ptc), 29, true, 2⟩), (2, ⟨((Sp.setJ (Sp.kp0 qs.length) J).map boolv), 4, true, 1⟩), (3, ⟨((Sp.slF qs (Sp.setJ (Sp.kp0 qs.length) J) i).flatMap ptc), 29, true, 2⟩)]) i) (fun i : Nat => (fun (i : Nat) => (i ≤ qs.length) ∧ ((Sp.slF qs (Sp.setJ (Sp.kp0 qs.length) J) i).length ≤ i)) i) (fun i : Nat => (fun (i : Nat) => qs.length - i) i) (fun i hi2 ih2 => ?_) 0 (show (0 ≤ qs.length) ∧ ((Sp.slF qs (Sp.setJ (Sp.kp0 qs.length) J) 0).length ≤ 0) from ⟨by omega, by exact Nat.le_refl _⟩)
    obtain ⟨i, hv2⟩ : ∃ z, z = i := ⟨i, rfl⟩; subst hv2
    have hi2' : (i ≤ qs.length) ∧ ((Sp.slF qs (Sp.setJ (Sp.kp0 qs.length) J) i).length ≤ i) := hi2
    obtain ⟨hi, hsl⟩ := hi2'
    show AL _ _ _ (mkSt 1 [(8, .slice (some ⟨2, 0, none⟩) qs.length 0), (9, .slice (some ⟨3, 0, none⟩) ((Sp.slF qs (Sp.setJ (Sp.kp0 qs.length) J) i).length) 0), (51, .slice (some ⟨1, 0, none⟩) qs.length 0), (52, .int .i64 ((qs.length : Nat) : Int)), (53, .int .i64 ((i : Nat) : Int))] [(0, ⟨(ps.flatMap ptc), 29, false, 2⟩), (1, ⟨(qs.flatMap ptc), 29, true, 2⟩), (2, ⟨((Sp.setJ (Sp.kp0 qs.length) J).map boolv), 4, true, 1⟩), (3, ⟨((Sp.slF qs (Sp.setJ (Sp.kp0 qs.length) J) i).flatMap ptc), 29, true, 2⟩)]) _
    refine al_round ?_
    refine aw_p 16367 (
      .a 1 4 <| .nil _ _) ?_
    refine aw_sq 32734 32735 ?_
    refine aw_cd 65468 65469 (decide (((i : Nat) : Int) < ((qs.length : Nat) : Int))) (fun h2 => ?_) (fun h2 => ?_)
    · have h2p : ((((i : Nat) : Int) < ((qs.length : Nat) : Int))) := by first | (simpa using h2) | (have h2q := h2; simp at h2q; omega) | (have h2q := bx1 h2; simp at h2q; omega)
      have hil : i < qs.length := by omega
      refine aw_sk ?_
      refine then_normal ?_
      refine aw_sq 65470 65471 ?_
      refine aw_bl 3 130941 ?_
      refine aw_p 261883 (
        .a 1 4 <| .p (does_indexSlice (t := 24) (x := .tmp 51) (y := .tmp 53) (k := 1) (off := 0) (n := qs.length) (c := 0) (z := 2) (kd := .i64) (j := ((i : Nat) : Int)) (by kernel_rfl) (by kernel_rfl) (by kernel_rfl) (by kernel_rfl) (by kernel_rfl) (by omega) (by omega)) <|
        .p (does_load (t := 29) (x := .tmp 56) (k := 1) (off := (0 + (((i : Nat) : Int)).toNat * 2)) (b := ⟨(qs.flatMap ptc), 29, true, 2⟩) (v := .agg #[.int .i64 ((qs.getD i (0, 0)).1), .int .i64 ((qs.getD i (0, 0)).2)]) (by kernel_rfl) (by kernel_rfl) (by kernel_rfl) (ldV_pair (j := i) (by kernel_rfl) (by kernel_rfl) (by omega) (by first | omega | (simp only [Sp.setJ_len, Sp.kp0_len, List.length_set, List.length_replicate]; omega)))) <|
        .a 3 4 <| .nil _ _) ?_
      refine aw_p 523767 (
        .a 2 5 <| .p (does_indexSlice (t := 68) (x := .tmp 58) (y := .tmp 59) (k := 2) (off := 0) (n := qs.length) (c := 0) (z := 1) (kd := .i64) (j := ((i : Nat) : Int)) (by kernel_rfl) (by kernel_rfl) (by kernel_rfl) (by kernel_rfl) (by kernel_rfl) (by omega) (by omega)) <|
        .p (does_load (t := 4) (x := .tmp 60) (k := 2) (off := (0 + (((i : Nat) : Int)).toNat * 1)) (b := ⟨((Sp.setJ (Sp.kp0 qs.length) J).map boolv), 4, true, 1⟩) (v := .bool ((Sp.setJ (Sp.kp0 qs.length) J).getD i false)) (by kernel_rfl) (by kernel_rfl) (by kernel_rfl) (by rw [show (0 + (((i : Nat) : Int)).toNat * 1) = i from (by omega)]; exact ldV_map (f := boolv) (j := i) false (by kernel_rfl) (by kernel_rfl) (by first | omega | (simp only [Sp.setJ_len, Sp.kp0_len, List.length_set, List.length_replicate]; omega)))) <| .nil _ _) ?_
      refine aw_cd 1047534 1047535 ((Sp.setJ (Sp.kp0 qs.length) J).getD i false) (fun h3 => ?_) (fun h3 => ?_)
      · refine aw_p1 (
          .a 3 5 <|
          .p (does_apy 6 29 2 16 3 ((Sp.slF qs (Sp.setJ (Sp.kp0 qs.length) J) i).length) 5 1 ⟨((Sp.slF qs (Sp.setJ (Sp.kp0 qs.length) J) i).flatMap ptc), 29, true, 2⟩ ⟨[.int .i64 ((qs.getD i (0, 0)).1), .int .i64 ((qs.getD i (0, 0)).2)], 29, true, 2⟩ ((Sp.slF qs (Sp.setJ (Sp.kp0 qs.length) J) (i + 1)).flatMap ptc) (by kernel_rfl) (by kernel_rfl) (by kernel_rfl) (by kernel_rfl) (by kernel_rfl) (by show ((Sp.slF qs (Sp.setJ (Sp.kp0 qs.length) J) i).flatMap ptc).length = _; rw [pairs_length]; omega) (by omega) (by omega) (by rw [Sp.slF_y (ps := qs) (kp := (Sp.setJ (Sp.kp0 qs.length) J)) (n := i) (by assumption)]; simp [ptc, pairs_length])) <|
          .a 1 7 <| .nil _ _) ?_
        refine block_normal ?_
        refine then_normal ?_
        refine aw_w [(8, .slice (some ⟨2, 0, none⟩) qs.length 0), (9, .slice (some ⟨6, 0, none⟩) ((Sp.slF qs (Sp.setJ (Sp.kp0 qs.length) J) (i + 1)).length) 0), (10, .int .i64 ((i : Nat) : Int)), (11, .pointer (some ⟨4, 0, none⟩)), (51, .slice (some ⟨1, 0, none⟩) qs.length 0), (52, .int .i64 ((qs.length : Nat) : Int)), (53, .int .i64 ((i : Nat) : Int)), (54, .bool (decide (((i : Nat) : Int) < ((qs.length : Nat) : Int)))), (61, .bool ((Sp.setJ (Sp.kp0 qs.length) J).getD i false))] [(0, ⟨(ps.flatMap ptc), 29, false, 2⟩), (1, ⟨(qs.flatMap ptc), 29, true, 2⟩), (2, ⟨((Sp.setJ (Sp.kp0 qs.length) J).map boolv), 4, true, 1⟩), (4, ⟨[.int .i64 ((qs.getD i (0, 0)).1), .int .i64 ((qs.getD i (0, 0)).2)], 29, true, 2⟩), (6, ⟨((Sp.slF qs (Sp.setJ (Sp.kp0 qs.length) J) (i + 1)).flatMap ptc), 29, true, 2⟩)] ?_ (by (try rw [Sp.slF_ylen (ps := qs) (kp := (Sp.setJ (Sp.kp0 qs.length) J)) (n := i) (by assumption)]); kernel_rfl) (by (try rw [Sp.slF_ylen (ps := qs) (kp := (Sp.setJ (Sp.kp0 qs.length) J)) (n := i) (by assumption)]); kernel_rfl) (hc := (by simp [closedB, valsB, valB, List.all_eq_true, List.mem_flatMap, List.mem_range, List.mem_map, i64v, ptc, boolv, flat1]; try (intros; simp [valsB, valB, flat1]); try decide))
        refine aw_p1 (
          .p (does_i (((i : Nat) : Int) + 1) (wrap_i64 (by omega) (by omega)) .i64) <| .a 1 7 <| .nil _ _) ?_
        refine then_normal ?_
        refine al_r [(3, 6)] [(8, .slice (some ⟨2, 0, none⟩) qs.length 0), (9, .slice (some ⟨6, 0, none⟩) ((Sp.slF qs (Sp.setJ (Sp.kp0 qs.length) J) (i + 1)).length) 0), (51, .slice (some ⟨1, 0, none⟩) qs.length 0), (52, .int .i64 ((qs.length : Nat) : Int)), (53, .int .i64 (((i + 1) : Nat) : Int))] [(0, ⟨(ps.flatMap ptc), 29, false, 2⟩), (1, ⟨(qs.flatMap ptc), 29, true, 2⟩), (2, ⟨((Sp.setJ (Sp.kp0 qs.length) J).map boolv), 4, true, 1⟩), (6, ⟨((Sp.slF qs (Sp.setJ (Sp.kp0 qs.length) J) (i + 1)).flatMap ptc), 29, true, 2⟩)] [(8, .slice (some ⟨2, 0, none⟩) qs.length 0), (9, .slice (some ⟨3, 0, none⟩) ((Sp.slF qs (Sp.setJ (Sp.kp0 qs.length) J) (i + 1)).length) 0), (51, .slice (some ⟨1, 0, none⟩) qs.length 0), (52, .int .i64 ((qs.length : Nat) : Int)), (53, .int .i64 (((i + 1) : Nat) : Int))] [(0, ⟨(ps.flatMap ptc), 29, false, 2⟩), (1, ⟨(qs.flatMap ptc), 29, true, 2⟩), (2, ⟨((Sp.setJ (Sp.kp0 qs.length) J).map boolv), 4, true, 1⟩), (3, ⟨((Sp.slF qs (Sp.setJ (Sp.kp0 qs.length) J) (i + 1)).flatMap ptc), 29, true, 2⟩)] ?_ ⟨rfl, (.slice _ _ _ _ _ rfl), rfl, (.slice _ _ _ _ _ rfl), rfl, (.slice _ _ _ _ _ rfl), rfl, (.flatB (by kernel_rfl)), rfl, (.flatB (by kernel_rfl)), trivial⟩ ⟨rfl, ⟨rfl, rfl, rfl, (.flats (flats_pair _))⟩, rfl, ⟨rfl, rfl, rfl, (.flats (flats_pair _))⟩, rfl, ⟨rfl, rfl, rfl, (.flats (flats_map (fun _ => rfl) _))⟩, rfl, ⟨rfl, rfl, rfl, (.flats (flats_pair _))⟩, trivial⟩
        exact ih2 (i + 1) (show ((i + 1) ≤ qs.length) ∧ ((Sp.slF qs (Sp.setJ (Sp.kp0 qs.length) J) (i + 1)).length ≤ (i + 1)) from ⟨by omega, by exact Sp.slF_len _ _ _⟩) (show qs.length - (i + 1) < qs.length - i from by omega)
      · refine aw_sk ?_
        refine block_normal ?_
        refine then_normal ?_
        refine aw_w [(8, .slice (some ⟨2, 0, none⟩) qs.length 0), (9, .slice (some ⟨3, 0, none⟩) ((Sp.slF qs (Sp.setJ (Sp.kp0 qs.length) J) (i + 1)).length) 0), (10, .int .i64 ((i : Nat) : Int)), (11, .pointer (some ⟨4, 0, none⟩)), (51, .slice (some ⟨1, 0, none⟩) qs.length 0), (52, .int .i64 ((qs.length : Nat) : Int)), (53, .int .i64 ((i : Nat) : Int)), (54, .bool (decide (((i : Nat) : Int) < ((qs.length : Nat) : Int)))), (61, .bool ((Sp.setJ (Sp.kp0 qs.length) J).getD i false))] [(0, ⟨(ps.flatMap ptc), 29, false, 2⟩), (1, ⟨(qs.flatMap ptc), 29, true, 2⟩), (2, ⟨((Sp.setJ (Sp.kp0 qs.length) J).map boolv), 4, true, 1⟩), (3, ⟨((Sp.slF qs (Sp.setJ (Sp.kp0 qs.length) J) (i + 1)).flatMap ptc), 29, true, 2⟩), (4, ⟨[.int .i64 ((qs.getD i (0, 0)).1), .int .i64 ((qs.getD i (0, 0)).2)], 29, true, 2⟩)] ?_ (by (try rw [Sp.slF_n (ps := qs) (kp := (Sp.setJ (Sp.kp0 qs.length) J)) (n := i) (by assumption)]); kernel_rfl) (by (try rw [Sp.slF_n (ps := qs) (kp := (Sp.setJ (Sp.kp0 qs.length) J)) (n := i) (by assumption)]); kernel_rfl) (hc := (by simp [closedB, valsB, valB, List.all_eq_true, List.mem_flatMap, List.mem_range, List.mem_map, i64v, ptc, boolv, flat1]; try (intros; simp [valsB, valB, flat1]); try decide))
        refine aw_p1 (
          .p (does_i (((i : Nat) : Int) + 1) (wrap_i64 (by omega) (by omega)) .i64) <| .a 1 5 <| .nil _ _) ?_
        refine then_normal ?_
        refine al_w [(8, .slice (some ⟨2, 0, none⟩) qs.length 0), (9, .slice (some ⟨3, 0, none⟩) ((Sp.slF qs (Sp.setJ (Sp.kp0 qs.length) J) (i + 1)).length) 0), (51, .slice (some ⟨1, 0, none⟩) qs.length 0), (52, .int .i64 ((qs.length : Nat) : Int)), (53, .int .i64 (((i + 1) : Nat) : Int))] [(0, ⟨(ps.flatMap ptc), 29, false, 2⟩), (1, ⟨(qs.flatMap ptc), 29, true, 2⟩), (2, ⟨((Sp.setJ (Sp.kp0 qs.length) J).map boolv), 4, true, 1⟩), (3, ⟨((Sp.slF qs (Sp.setJ (Sp.kp0 qs.length) J) (i + 1)).flatMap ptc), 29, true, 2⟩)] ?_ (hc := (by simp [closedB, valsB, valB, List.all_eq_true, List.mem_flatMap, List.mem_range, List.mem_map, i64v, ptc, boolv, flat1]; try (intros; simp [valsB, valB, flat1]); try decide))
        exact ih2 (i + 1) (show ((i + 1) ≤ qs.length) ∧ ((Sp.slF qs (Sp.setJ (Sp.kp0 qs.length) J) (i + 1)).length ≤ (i + 1)) from ⟨by omega, by exact Sp.slF_len _ _ _⟩) (show qs.length - (i + 1) < qs.length - i from by omega)
    · have h2p : ¬ ((((i : Nat) : Int) < ((qs.length : Nat) : Int))) := by first | (simpa using h2) | (have h2q := h2; simp at h2q; omega) | (have h2q := bx2 h2; simp at h2q; omega)
      have hin : i = qs.length := by omega
      refine aw_ex 2 ?_
      refine then_exit ?_
      refine then_exit ?_
      refine block_exit ?_
      refine then_normal ?_
      refine aw_w [(9, .slice (some ⟨3, 0, none⟩) ys.length 0)] [(0, ⟨(ps.flatMap ptc), 29, false, 2⟩), (3, ⟨(ys.flatMap ptc), 29, true, 2⟩)] ?_ (by (try rw [← hy, ← hin]); kernel_rfl) (by (try rw [← hy, ← hin]); kernel_rfl) (hc := (by simp [closedB, valsB, valB, List.all_eq_true, List.mem_flatMap, List.mem_range, List.mem_map, i64v, ptc, boolv, flat1]; try (intros; simp [valsB, valB, flat1]); try decide))
      refine aw_p 2047 (
        .a 2 4 <| .nil _ _) ?_
      refine aw_r [(1, 3)] [(4, .slice (some ⟨3, 0, none⟩) ys.length 0)] [(0, ⟨(ps.flatMap ptc), 29, false, 2⟩), (3, ⟨(ys.flatMap ptc), 29, true, 2⟩)] [(4, .slice (some ⟨1, 0, none⟩) ys.length 0)] [(0, ⟨(ps.flatMap ptc), 29, false, 2⟩), (1, ⟨(ys.flatMap ptc), 29, true, 2⟩)] ?_ ⟨rfl, (.slice _ _ _ _ _ rfl), trivial⟩ ⟨rfl, ⟨rfl, rfl, rfl, (.flats (flats_pair _))⟩, rfl, ⟨rfl, rfl, rfl, (.flats (flats_pair _))⟩, trivial⟩
      refine aw_rt ?_
      exact en_ret [.slice (some ⟨1, 0, none⟩) ys.length 0] (by kernel_rfl)

theorem tline_short_own (ps qs : List (Int × Int)) (hq : ps.map Sp.lmP = qs) (hz : ps.length ≤ 8796093021952) (tol : Int) (h3 : qs.length < 3) :
    AC Try.prog 16 1 ([.slice (some ⟨0, 0, none⟩) ps.length 0, .int .i64 tol]) [(0, ⟨(ps.flatMap ptc), 29, true, 2⟩)] (.slice (some ⟨1, 0, none⟩) qs.length 0) [(0, ⟨(ps.flatMap ptc), 29, true, 2⟩), (1, ⟨(qs.flatMap ptc), 29, true, 2⟩)] := by
  have hql : qs.length = ps.length := (by rw [← hq, List.length_map]); have hf : Sp.Few 1048576 qs := (hq ▸ Sp.few_lim ps)
  refine ac_in Try.func16 (fun w0 W pin => ?_)
  refine aw_p 3 (
    .a 1 1 <| .nil _ _) ?_
  refine aw_p 7 (
    .a 2 1 <| .p (does_mk (kl := .i64) (kc := .i64) (n' := 0) (c' := ((ps.length : Nat) : Int)) 1 29 2 16 0 ps.length (.agg #[.int .i64 0, .int .i64 0]) [] (by kernel_rfl) (by kernel_rfl) (by kernel_rfl) (by kernel_rfl) (by decide) rfl (by omega) (by omega) (by omega)) <| .a 1 2 <| .nil _ _) ?_
  refine aw_sq 14 15 ?_
  refine aw_p 29 (
    .a 3 2 <| .nil _ _) ?_
  refine aw_bl 0 59 ?_
  refine aw_lp 119 ?_
  refine al_w [(1, .int .i64 tol), (5, .slice (some ⟨1, 0, none⟩) 0 0), (15, .slice (some ⟨0, 0, none⟩) ps.length 0), (16, .int .i64 ((ps.length : Nat) : Int)), (17, .int .i64 ((0 : Nat) : Int))] [(0, ⟨(ps.flatMap ptc), 29, true, 2⟩), (1, ⟨(((ps.take 0).map Sp.lmP).flatMap ptc), 29, true, 2⟩)] ?_ (hc := (by simp [closedB, valsB, valB, List.all_eq_true, List.mem_flatMap, List.mem_range, List.mem_map, i64v, ptc, boolv, flat1]; try (intros; simp [valsB, valB, flat1]); try decide))
  refine al_ind (fun i : Nat => (fun (i : Nat) => mkSt 1 [(1, .int .i64 tol), (5, .slice (some ⟨1, 0, none⟩) i 0), (15, .slice (some ⟨0, 0, none⟩) ps.length 0), (16, .int .i64 ((ps.length : Nat) : Int)), (17, .int .i64 ((i : Nat) : Int))] [(0, ⟨(ps.flatMap ptc), 29, true, 2⟩), (1, ⟨(((ps.take i).map Sp.lmP).flatMap ptc), 29, true, 2⟩)]) i) (fun i : Nat => (fun (i : Nat) => (i ≤ ps.length)) i) (fun i : Nat => (fun (i : Nat) => ps.length - i) i) (fun i hi1 ih1 => ?_) 0 (show (0 ≤ ps.length) from by omega)
  obtain ⟨i, hv1⟩ : ∃ z, z = i := ⟨i, rfl⟩; subst hv1
  have hi1' : (i ≤ ps.length) := hi1
  have hi : i ≤ ps.length := hi1'
  show AL _ _ _ (mkSt 1 [(1, .int .i64 tol), (5, .slice (some ⟨1, 0, none⟩) i 0), (15, .slice (some ⟨0, 0, none⟩) ps.length 0), (16, .int .i64 ((ps.length : Nat) : Int)), (17, .int .i64 ((i : Nat) : Int))] [(0, ⟨(ps.flatMap ptc), 29, true, 2⟩), (1, ⟨(((ps.take i).map Sp.lmP).flatMap ptc), 29, true, 2⟩)]) _
  refine al_round ?_
  refine aw_p 239 (
    .a 1 2 <| .nil _ _) ?_
  refine aw_sq 478 479 ?_
  refine aw_cd 956 957 (decide (((i : Nat) : Int) < ((ps.length : Nat) : Int))) (fun h1 => ?_) (fun h1 => ?_)
  · have h1p : ((((i : Nat) : Int) < ((ps.length : Nat) : Int))) := by first | (simpa using h1) | (have h1q := h1; simp at h1q; omega) | (have h1q := bx1 h1; simp at h1q; omega)
    have hil : i < ps.length := by omega
    refine aw_sk ?_
    refine then_normal ?_
    refine aw_sq 958 959 ?_
    refine aw_bl 1 1917 ?_
    refine aw_p 3835 (
      .p (does_indexSlice (t := 24) (x := .tmp 15) (y := .tmp 17) (k := 0) (off := 0) (n := ps.length) (c := 0) (z := 2) (kd := .i64) (j := ((i : Nat) : Int)) (by kernel_rfl) (by kernel_rfl) (by kernel_rfl) (by kernel_rfl) (by kernel_rfl) (by omega) (by omega)) <|
      .p (does_load (t := 29) (x := .tmp 19) (k := 0) (off := (0 + (((i : Nat) : Int)).toNat * 2)) (b := ⟨(ps.flatMap ptc), 29, true, 2⟩) (v := .agg #[.int .i64 ((ps.getD i (0, 0)).1), .int .i64 ((ps.getD i (0, 0)).2)]) (by kernel_rfl) (by kernel_rfl) (by kernel_rfl) (ldV_pair (j := i) (by kernel_rfl) (by kernel_rfl) (by omega) (by first | omega | (simp only [Sp.setJ_len, Sp.kp0_len, List.length_set, List.length_replicate]; omega)))) <|
      .a 2 2 <| .nil _ _) ?_
    refine aw_p1 (
      .a 2 3 <| .p (does_c (clamp_ok ((ps.getD i (0, 0)).1) ((ps.getD i (0, 0)).2))) <| .a 1 3 <|
      .p (does_apy 4 29 2 16 1 i 3 1 ⟨(((ps.take i).map Sp.lmP).flatMap ptc), 29, true, 2⟩ ⟨[.int .i64 (Sp.lim 1048576 ((ps.getD i (0, 0)).1)), .int .i64 (Sp.lim 1048576 ((ps.getD i (0, 0)).2))], 29, true, 2⟩ (((ps.take (i + 1)).map Sp.lmP).flatMap ptc) (by kernel_rfl) (by kernel_rfl) (by kernel_rfl) (by kernel_rfl) (by kernel_rfl) (by show ((((ps.take i).map Sp.lmP).flatMap ptc)).length = _; rw [pairs_length]; simp; omega) (by omega) (by omega) (Sp.snoc_take hil rfl)) <|
      .a 1 5 <| .nil _ _) ?_
    refine block_normal ?_
    refine then_normal ?_
    refine aw_p1 (
      .p (does_i (((i : Nat) : Int) + 1) (wrap_i64 (by omega) (by omega)) .i64) <| .a 1 5 <| .nil _ _) ?_
    refine then_normal ?_
    refine al_r [(1, 4)] [(1, .int .i64 tol), (5, .slice (some ⟨4, 0, none⟩) (i + 1) 0), (15, .slice (some ⟨0, 0, none⟩) ps.length 0), (16, .int .i64 ((ps.length : Nat) : Int)), (17, .int .i64 (((i + 1) : Nat) : Int))] [(0, ⟨(ps.flatMap ptc), 29, true, 2⟩), (4, ⟨(((ps.take (i + 1)).map Sp.lmP).flatMap ptc), 29, true, 2⟩)] [(1, .int .i64 tol), (5, .slice (some ⟨1, 0, none⟩) (i + 1) 0), (15, .slice (some ⟨0, 0, none⟩) ps.length 0), (16, .int .i64 ((ps.length : Nat) : Int)), (17, .int .i64 (((i + 1) : Nat) : Int))] [(0, ⟨(ps.flatMap ptc), 29, true, 2⟩), (1, ⟨(((ps.take (i + 1)).map Sp.lmP).flatMap ptc), 29, true, 2⟩)] ?_ ⟨rfl, (.flatB (by kernel_rfl)), rfl, (.slice _ _ _ _ _ rfl), rfl, (.slice _ _ _ _ _ rfl), rfl, (.flatB (by kernel_rfl)), rfl, (.flatB (by kernel_rfl)), trivial⟩ ⟨rfl, ⟨rfl, rfl, rfl, (.flats (flats_pair _))⟩, rfl, ⟨rfl, rfl, rfl, (.flats (flats_pair _))⟩, trivial⟩
    exact ih1 (i + 1) (show ((i + 1) ≤ ps.length) from by omega) (show ps.length - (i + 1) < ps.length - i from by omega)
  · have h1p : ¬ ((((i : Nat) : Int) < ((ps.length : Nat) : Int))) := by first | (simpa using h1) | (have h1q := h1; simp at h1q; omega) | (have h1q := bx2 h1; simp at h1q; omega)
    have hin : i = ps.length := by omega
    refine aw_ex 0 ?_
    refine then_exit ?_
    refine then_exit ?_
    refine block_exit ?_
    refine then_normal ?_
    refine aw_w [(1, .int .i64 tol), (5, .slice (some ⟨1, 0, none⟩) qs.length 0)] [(0, ⟨(ps.flatMap ptc), 29, true, 2⟩), (1, ⟨(qs.flatMap ptc), 29, true, 2⟩)] ?_ (by (try (first | rw [show qs.length = i from (by omega)] | rw [show qs = (ps.take i).map Sp.lmP from (by rw [hin, List.take_length, hq])])); kernel_rfl) (by (try (first | rw [show qs.length = i from (by omega)] | rw [show qs = (ps.take i).map Sp.lmP from (by rw [hin, List.take_length, hq])])); kernel_rfl) (hc := (by simp [closedB, valsB, valB, List.all_eq_true, List.mem_flatMap, List.mem_range, List.mem_map, i64v, ptc, boolv, flat1]; try (intros; simp [valsB, valB, flat1]); try decide))
    refine aw_sq 30 31 ?_
    refine aw_p 61 (
      .a 2 2 <| .p (does_b true ((show (decide (((qs.length : Nat) : Int) < 3)) = true from decide_eq_true (by omega)))) <| .nil _ _) ?_
    refine aw_tr 122 ?_
    refine aw_p 245 (
      .a 2 2 <| .nil _ _) ?_
    refine aw_rt ?_
    refine then_ret ?_
    exact en_ret [.slice (some ⟨1, 0, none⟩) qs.length 0] (by kernel_rfl)

theorem tline_long_own (ps qs ys : List (Int × Int)) (hq : ps.map Sp.lmP = qs) (hz : ps.length ≤ 8796093021952) (tol : Int) (h3 : 3 ≤ qs.length) (J : List Nat) (hJ : Sp.ThinP qs tol 0 (qs.length - 1) J) (hy : Sp.slF qs (Sp.setJ (Sp.kp0 qs.length) J) qs.length = ys) :
    AC Try.prog 16 1 ([.slice (some ⟨0, 0, none⟩) ps.length 0, .int .i64 tol]) [(0, ⟨(ps.flatMap ptc), 29, true, 2⟩)] (.slice (some ⟨1, 0, none⟩) ys.length 0) [(0, ⟨(ps.flatMap ptc), 29, true, 2⟩), (1, ⟨(ys.flatMap ptc), 29, true, 2⟩)] := by
  have hql : qs.length = ps.length := (by rw [← hq, List.length_map]); have hf : Sp.Few 1048576 qs := (hq ▸ Sp.few_lim ps)
  refine ac_in Try.func16 (fun w0 W pin => ?_)
  refine aw_p 3 (
    .a 1 1 <| .nil _ _) ?_
  refine aw_p 7 (
    .a 2 1 <| .p (does_mk (kl := .i64) (kc := .i64) (n' := 0) (c' := ((ps.length : Nat) : Int)) 1 29 2 16 0 ps.length (.agg #[.int .i64 0, .int .i64 0]) [] (by kernel_rfl) (by kernel_rfl) (by kernel_rfl) (by kernel_rfl) (by decide) rfl (by omega) (by omega) (by omega)) <| .a 1 2 <| .nil _ _) ?_
  refine aw_sq 14 15 ?_
  refine aw_p 29 (
    .a 3 2 <| .nil _ _) ?_
  refine aw_bl 0 59 ?_
  refine aw_lp 119 ?_
  refine al_w [(1, .int .i64 tol), (5, .slice (some ⟨1, 0, none⟩) 0 0), (15, .slice (some ⟨0, 0, none⟩) ps.length 0), (16, .int .i64 ((ps.length : Nat) : Int)), (17, .int .i64 ((0 : Nat) : Int))] [(0, ⟨(ps.flatMap ptc), 29, true, 2⟩), (1, ⟨(((ps.take 0).map Sp.lmP).flatMap ptc), 29, true, 2⟩)] ?_ (hc := (by simp [closedB, valsB, valB, List.all_eq_true, List.mem_flatMap, List.mem_range, List.mem_map, i64v, ptc, boolv, flat1]; try (intros; simp [valsB, valB, flat1]); try decide))
  refine al_ind (fun i : Nat => (fun (i : Nat) => mkSt 1 [(1, .int .i64 tol), (5, .slice (some ⟨1, 0, none⟩) i 0), (15, .slice (some ⟨0, 0, none⟩) ps.length 0), (16, .int .i64 ((ps.length : Nat) : Int)), (17, .int .i64 ((i : Nat) : Int))] [(0, ⟨(ps.flatMap ptc), 29, true, 2⟩), (1, ⟨(((ps.take i).map Sp.lmP).flatMap ptc), 29, true, 2⟩)]) i) (fun i : Nat => (fun (i : Nat) => (i ≤ ps.length)) i) (fun i : Nat => (fun (i : Nat) => ps.length - i) i) (fun i hi1 ih1 => ?_) 0 (show (0 ≤ ps.length) from by omega)
  obtain ⟨i, hv1⟩ : ∃ z, z = i := ⟨i, rfl⟩; subst hv1
  have hi1' : (i ≤ ps.length) := hi1
  have hi : i ≤ ps.length := hi1'
  show AL _ _ _ (mkSt 1 [(1, .int .i64 tol), (5, .slice (some ⟨1, 0, none⟩) i 0), (15, .slice (some ⟨0, 0, none⟩) ps.length 0), (16, .int .i64 ((ps.length : Nat) : Int)), (17, .int .i64 ((i : Nat) : Int))] [(0, ⟨(ps.flatMap ptc), 29, true, 2⟩), (1, ⟨(((ps.take i).map Sp.lmP).flatMap ptc), 29, true, 2⟩)]) _
  refine al_round ?_
  refine aw_p 239 (
    .a 1 2 <| .nil _ _) ?_
  refine aw_sq 478 479 ?_
  refine aw_cd 956 957 (decide (((i : Nat) : Int) < ((ps.length : Nat) : Int))) (fun h1 => ?_) (fun h1 => ?_)
  · have h1p : ((((i : Nat) : Int) < ((ps.length : Nat) : Int))) := by first | (simpa using h1) | (have h1q := h1; simp at h1q; omega) | (have h1q := bx1 h1; simp at h1q; omega)
    have hil : i < ps.length := by omega
    refine aw_sk ?_
    refine then_normal ?_
    refine aw_sq 958 959 ?_
    refine aw_bl 1 1917 ?_
    refine aw_p 3835 (
      .p (does_indexSlice (t := 24) (x := .tmp 15) (y := .tmp 17) (k := 0) (off := 0) (n := ps.length) (c := 0) (z := 2) (kd := .i64) (j := ((i : Nat) : Int)) (by kernel_rfl) (by kernel_rfl) (by kernel_rfl) (by kernel_rfl) (by kernel_rfl) (by omega) (by omega)) <|
      .p (does_load (t := 29) (x := .tmp 19) (k := 0) (off := (0 + (((i : Nat) : Int)).toNat * 2)) (b := ⟨(ps.flatMap ptc), 29, true, 2⟩) (v := .agg #[.int .i64 ((ps.getD i (0, 0)).1), .int .i64 ((ps.getD i (0, 0)).2)]) (by kernel_rfl) (by kernel_rfl) (by kernel_rfl) (ldV_pair (j := i) (by kernel_rfl) (by kernel_rfl) (by omega) (by first | omega | (simp only [Sp.setJ_len, Sp.kp0_len, List.length_set, List.length_replicate]; omega)))) <|
      .a 2 2 <| .nil _ _) ?_
    refine aw_p1 (
      .a 2 3 <| .p (does_c (clamp_ok ((ps.getD i (0, 0)).1) ((ps.getD i (0, 0)).2))) <| .a 1 3 <|
      .p (does_apy 4 29 2 16 1 i 3 1 ⟨(((ps.take i).map Sp.lmP).flatMap ptc), 29, true, 2⟩ ⟨[.int .i64 (Sp.lim 1048576 ((ps.getD i (0, 0)).1)), .int .i64 (Sp.lim 1048576 ((ps.getD i (0, 0)).2))], 29, true, 2⟩ (((ps.take (i + 1)).map Sp.lmP).flatMap ptc) (by kernel_rfl) (by kernel_rfl) (by kernel_rfl) (by kernel_rfl) (by kernel_rfl) (by show ((((ps.take i).map Sp.lmP).flatMap ptc)).length = _; rw [pairs_length]; simp; omega) (by omega) (by omega) (Sp.snoc_take hil rfl)) <|
      .a 1 5 <| .nil _ _) ?_
    refine block_normal ?_
    refine then_normal ?_
    refine aw_p1 (
      .p (does_i (((i : Nat) : Int) + 1) (wrap_i64 (by omega) (by omega)) .i64) <| .a 1 5 <| .nil _ _) ?_
    refine then_normal ?_
    refine al_r [(1, 4)] [(1, .int .i64 tol), (5, .slice (some ⟨4, 0, none⟩) (i + 1) 0), (15, .slice (some ⟨0, 0, none⟩) ps.length 0), (16, .int .i64 ((ps.length : Nat) : Int)), (17, .int .i64 (((i + 1) : Nat) : Int))] [(0, ⟨(ps.flatMap ptc), 29, true, 2⟩), (4, ⟨(((ps.take (i + 1)).map Sp.lmP).flatMap ptc), 29, true, 2⟩)] [(1, .int .i64 tol), (5, .slice (some ⟨1, 0, none⟩) (i + 1) 0), (15, .slice (some ⟨0, 0, none⟩) ps.length 0), (16, .int .i64 ((ps.length : Nat) : Int)), (17, .int .i64 (((i + 1) : Nat) : Int))] [(0, ⟨(ps.flatMap ptc), 29, true, 2⟩), (1, ⟨(((ps.take (i + 1)).map Sp.lmP).flatMap ptc), 29, true, 2⟩)] ?_ ⟨rfl, (.flatB (by kernel_rfl)), rfl, (.slice _ _ _ _ _ rfl), rfl, (.slice _ _ _ _ _ rfl), rfl, (.flatB (by kernel_rfl)), rfl, (.flatB (by kernel_rfl)), trivial⟩ ⟨rfl, ⟨rfl, rfl, rfl, (.flats (flats_pair _))⟩, rfl, ⟨rfl, rfl, rfl, (.flats (flats_pair _))⟩, trivial⟩
    exact ih1 (i + 1) (show ((i + 1) ≤ ps.length) from by omega) (show ps.length - (i + 1) < ps.length - i from by omega)
  · have h1p : ¬ ((((i : Nat) : Int) < ((ps.length : Nat) : Int))) := by first | (simpa using h1) | (have h1q := h1; simp at h1q; omega) | (have h1q := bx2 h1; simp at h1q; omega)
    have hin : i = ps.length := by omega
    refine aw_ex 0 ?_
    refine then_exit ?_
    refine then_exit ?_
    refine block_exit ?_
    refine then_normal ?_
    refine aw_w [(1, .int .i64 tol), (5, .slice (some ⟨1, 0, none⟩) qs.length 0)] [(0, ⟨(ps.flatMap ptc), 29, true, 2⟩), (1, ⟨(qs.flatMap ptc), 29, true, 2⟩)] ?_ (by (try (first | rw [show qs.length = i from (by omega)] | rw [show qs = (ps.take i).map Sp.lmP from (by rw [hin, List.take_length, hq])])); kernel_rfl) (by (try (first | rw [show qs.length = i from (by omega)] | rw [show qs = (ps.take i).map Sp.lmP from (by rw [hin, List.take_length, hq])])); kernel_rfl) (hc := (by simp [closedB, valsB, valB, List.all_eq_true, List.mem_flatMap, List.mem_range, List.mem_map, i64v, ptc, boolv, flat1]; try (intros; simp [valsB, valB, flat1]); try decide))
    refine aw_sq 30 31 ?_
    refine aw_p 61 (
      .a 2 2 <| .p (does_b false ((show (decide (((qs.length : Nat) : Int) < 3)) = false from decide_eq_false (by omega)))) <| .nil _ _) ?_
    refine aw_fl 123 ?_
    refine aw_sk ?_
    refine then_normal ?_
    refine aw_p 63 (
      .a 2 2 <|
      .p (does_mk (kl := .i64) (kc := .i64) (n' := ((qs.length : Nat) : Int)) (c' := ((qs.length : Nat) : Int)) 2 4 1 1 qs.length qs.length (.bool false) ((List.replicate qs.length false).map boolv) (by kernel_rfl) (by kernel_rfl) (flat_bools _) (made_bools _) rfl rfl (Nat.le_refl _) (by omega) (by omega)) <|
      .a 1 3 <| .nil _ _) ?_
    refine aw_p 127 (
      .a 4 3 <| .p (does_i ((qs.length - 1 : Nat) : Int) ((show (IntKind.wrap .i64 (((qs.length : Nat) : Int) - 1)) = ((qs.length - 1 : Nat) : Int) from ((wrap_i64 (by omega) (by omega)).trans (by omega)))) .i64) <|
      .p (does_indexSlice (t := 68) (x := .tmp 34) (y := .const (.int .i64 0)) (k := 2) (off := 0) (n := qs.length) (c := 0) (z := 1) (kd := .i64) (j := 0) (by kernel_rfl) (by kernel_rfl) (by kernel_rfl) (by kernel_rfl) (by kernel_rfl) (by omega) (by omega)) <|
      .p (does_store (t := 4) (x := .tmp 39) (y := .const (.bool true)) (k := 2) (off := 0) (b := ⟨((List.replicate qs.length false).map boolv), 4, true, 1⟩) (v := .bool true) (cells := (((List.replicate qs.length false).set 0 true).map boolv)) (by kernel_rfl) (by kernel_rfl) (by kernel_rfl) (by kernel_rfl) (by kernel_rfl) (by kernel_rfl) (by kernel_rfl) (Nat.ble_eq_true_of_le (by show _ + 1 ≤ ((List.replicate qs.length false).map boolv).length; rw [List.length_map]; first | omega | (simp only [Sp.setJ_len, Sp.kp0_len, List.length_set, List.length_replicate]; omega))) (by rw [show 0 = 0 from (by omega)]; exact set_map rfl)) <|
      .p (does_indexSlice (t := 68) (x := .tmp 35) (y := .tmp 38) (k := 2) (off := 0) (n := qs.length) (c := 0) (z := 1) (kd := .i64) (j := ((qs.length - 1 : Nat) : Int)) (by kernel_rfl) (by kernel_rfl) (by kernel_rfl) (by kernel_rfl) (by kernel_rfl) (by omega) (by omega)) <|
      .p (does_store (t := 4) (x := .tmp 40) (y := .const (.bool true)) (k := 2) (off := (0 + (((qs.length - 1 : Nat) : Int)).toNat * 1)) (b := ⟨(((List.replicate qs.length false).set 0 true).map boolv), 4, true, 1⟩) (v := .bool true) (cells := ((((List.replicate qs.length false).set 0 true).set (qs.length - 1) true).map boolv)) (by kernel_rfl) (by kernel_rfl) (by kernel_rfl) (by kernel_rfl) (by kernel_rfl) (by kernel_rfl) (by kernel_rfl) (Nat.ble_eq_true_of_le (by show _ + 1 ≤ (((List.replicate qs.length false).set 0 true).map boolv).length; rw [List.length_map]; first | omega | (simp only [Sp.setJ_len, Sp.kp0_len, List.length_set, List.length_replicate]; omega))) (by rw [show (0 + (((qs.length - 1 : Nat) : Int)).toNat * 1) = (qs.length - 1) from (by omega)]; exact set_map rfl)) <| .nil _ _) ?_
    refine aw_p 255 (
      .a 4 3 <| .p (does_i ((qs.length - 1 : Nat) : Int) ((show (IntKind.wrap .i64 (((qs.length : Nat) : Int) - 1)) = ((qs.length - 1 : Nat) : Int) from ((wrap_i64 (by omega) (by omega)).trans (by omega)))) .i64) <| .a 1 3 <|
      .p (does_callB (x := .func 57) (ars := #[.tmp 41, .tmp 42, .const (.int .i64 0), .tmp 45, .tmp 46]) (ats := #[24, 68, 3, 3, 3]) (g := 57) (vs := [.slice (some ⟨1, 0, none⟩) qs.length 0, .slice (some ⟨2, 0, none⟩) qs.length 0, .int .i64 0, .int .i64 ((qs.length - 1 : Nat) : Int), .int .i64 tol]) (m := 2) (r := 0) (firsts := #[]) (caps := #[]) (args0 := [.slice (some ⟨0, 0, none⟩) qs.length 0, .slice (some ⟨1, 0, none⟩) qs.length 0, .int .i64 ((0 : Nat) : Int), .int .i64 ((qs.length - 1 : Nat) : Int), .int .i64 tol]) (pre0 := [(0, ⟨(qs.flatMap ptc), 29, true, 2⟩), (1, ⟨((Sp.kp0 qs.length).map boolv), 4, true, 1⟩)]) (post0 := [(0, ⟨(qs.flatMap ptc), 29, true, 2⟩), (1, ⟨((Sp.setJ (Sp.kp0 qs.length) J).map boolv), 4, true, 1⟩)]) (pre := [(1, ⟨(qs.flatMap ptc), 29, true, 2⟩), (2, ⟨((((List.replicate qs.length false).set 0 true).set (qs.length - 1) true).map boolv), 4, true, 1⟩)]) (post := [(1, ⟨(qs.flatMap ptc), 29, true, 2⟩), (2, ⟨((Sp.setJ (Sp.kp0 qs.length) J).map boolv), 4, true, 1⟩)]) (v0 := .tuple #[]) (v := .tuple #[]) [1, 2] (by kernel_rfl) (by kernel_rfl) (by kernel_rfl) (by kernel_rfl) (mark_ok qs hf (by omega) tol hJ (by omega) (Sp.kp0 qs.length) (Sp.kp0_len _)) (.cons (.slice _ _ _ _ _ (by decide)) (.cons (.slice _ _ _ _ _ (by decide)) (.cons (.flatB (by kernel_rfl)) (.cons (.flatB (by kernel_rfl)) (.cons (.flatB (by kernel_rfl)) .nil))))) ⟨rfl, ⟨rfl, rfl, rfl, (.flats (flats_pair _))⟩, rfl, ⟨rfl, rfl, rfl, (.flats (flats_map (fun _ => rfl) _))⟩, trivial⟩ (by kernel_rfl) (by kernel_rfl) (by kernel_rfl) ⟨rfl, ⟨rfl, rfl, rfl, (.flats (flats_pair _))⟩, rfl, ⟨rfl, rfl, rfl, (.flats (flats_map (fun _ => rfl) _))⟩, trivial⟩ (.flatB (by kernel_rfl))) <| .nil _ _) ?_
    refine aw_p 511 (
      .a 2 3 <| .p (does_mk (kl := .i64) (kc := .i64) (n' := 0) (c' := ((qs.length : Nat) : Int)) 3 29 2 16 0 qs.length (.agg #[.int .i64 0, .int .i64 0]) [] (by kernel_rfl) (by kernel_rfl) (by kernel_rfl) (by kernel_rfl) (by decide) rfl (by omega) (by omega) (by omega)) <| .a 1 4 <| .nil _ _) ?_
    refine aw_sq 1022 1023 ?_
    refine aw_p 2045 (
      .a 3 4 <| .nil _ _) ?_
    refine aw_bl 2 4091 ?_
    refine aw_lp 8183 ?_
    refine al_w [(8, .slice (some ⟨2, 0, none⟩) qs.length 0), (9, .slice (some ⟨3, 0, none⟩) ((Sp.slF qs (Sp.setJ (Sp.kp0 qs.length) J) 0).length) 0), (51, .slice (some ⟨1, 0, none⟩) qs.length 0), (52, .int .i64 ((qs.length : Nat) : Int)), (53, .int .i64 ((0 : Nat) : Int))] [(0, ⟨(ps.flatMap ptc), 29, true, 2⟩), (1, ⟨(qs.flatMap ptc), 29, true, 2⟩), (2, ⟨((Sp.setJ (Sp.kp0 qs.length) J).map boolv), 4, true, 1⟩), (3, ⟨((Sp.slF qs (Sp.setJ (Sp.kp0 qs.length) J) 0).flatMap ptc), 29, true, 2⟩)] ?_ (hc := (by simp [closedB, valsB, valB, List.all_eq_true, List.mem_flatMap, List.mem_range, List.mem_map, i64v, ptc, boolv, flat1]; try (intros; simp [valsB, valB, flat1]); try decide))
    refine al_ind (fun i : Nat => (fun (i : Nat) => mkSt 1 [(8, .slice (some ⟨2, 0, none⟩) qs.length 0), (9, .slice (some ⟨3, 0, none⟩) ((Sp.slF qs (Sp.setJ (Sp.kp0 qs.length) J) i).length) 0), (51, .slice (some ⟨1, 0, none⟩) qs.length 0), (52, .int .i64 ((qs.length : Nat) : Int)), (53, .int .i64 ((i : Nat) : Int))] [(0, ⟨(ps.flatMap ptc), 29, true, 2⟩), (1, ⟨(qs.flatMap ptc), 29, true, 2⟩), (2, ⟨((Sp.setJ (Sp.kp0 qs.length) J).map boolv), 4, true, 1⟩), (3, ⟨((Sp.slF qs (Sp.setJ (Sp.kp0 qs.length) J) i).flatMap ptc), 29, true, 2⟩)]) i) (fun i : Nat => (fun (i : Nat) => (i ≤ qs.length) ∧ ((Sp.slF qs (Sp.setJ (Sp.kp0 qs.length) J) i).length ≤ i)) i) (fun i : Nat => (fun (i : Nat) => qs.length - i) i) (fun i hi2 ih2 => ?_) 0 (show (0 ≤ qs.length) ∧ ((Sp.slF qs (Sp.setJ (Sp.kp0 qs.length) J) 0).length ≤ 0) from ⟨by omega, by exact Nat.le_refl _⟩)
    obtain ⟨i, hv2⟩ : ∃ z, z = i := ⟨i, rfl⟩; subst hv2
    have hi2' : (i ≤ qs.length) ∧ ((Sp.slF qs (Sp.setJ (Sp.kp0 qs.length) J) i).length ≤ i) := hi2
    obtain ⟨hi, hsl⟩ := hi2'
    show AL _ _ _ (mkSt 1 [(8, .slice (some ⟨2, 0, none⟩) qs.length 0), (9, .slice (some ⟨3, 0, none⟩) ((Sp.slF qs (Sp.setJ (Sp.kp0 qs.length) J) i).length) 0), (51, .slice (some ⟨1, 0, none⟩) qs.length 0), (52, .int .i64 ((qs.length : Nat) : Int)), (53, .int .i64 ((i : Nat) : Int))] [(0, ⟨(ps.flatMap ptc), 29, true, 2⟩), (1, ⟨(qs.flatMap ptc), 29, true, 2⟩), (2, ⟨((Sp.setJ (Sp.kp0 qs.length) J).map boolv), 4, true, 1⟩), (3, ⟨((Sp.slF qs (Sp.setJ (Sp.kp0 qs.length) J) i).flatMap ptc), 29, true, 2⟩)]) _
    refine al_round ?_
    refine aw_p 16367 (
      .a 1 4 <| .nil _ _) ?_
    refine aw_sq 32734 32735 ?_
    refine aw_cd 65468 65469 (decide (((i : Nat) : Int) < ((qs.length : Nat) : Int))) (fun h2 => ?_) (fun h2 => ?_)
    · have h2p : ((((i : Nat) : Int) < ((qs.length : Nat) : Int))) := by first | (simpa using h2) | (have h2q := h2; simp at h2q; omega) | (have h2q := bx1 h2; simp at h2q; omega)
      have hil : i < qs.length := by omega
      refine aw_sk ?_
      refine then_normal ?_
      refine aw_sq 65470 65471 ?_
      refine aw_bl 3 130941 ?_
      refine aw_p 261883 (
        .a 1 4 <| .p (does_indexSlice (t := 24) (x := .tmp 51) (y := .tmp 53) (k := 1) (off := 0) (n := qs.length) (c := 0) (z := 2) (kd := .i64) (j := ((i : Nat) : Int)) (by kernel_rfl) (by kernel_rfl) (by kernel_rfl) (by kernel_rfl) (by kernel_rfl) (by omega) (by omega)) <|
        .p (does_load (t := 29) (x := .tmp 56) (k := 1) (off := (0 + (((i : Nat) : Int)).toNat * 2)) (b := ⟨(qs.flatMap ptc), 29, true, 2⟩) (v := .agg #[.int .i64 ((qs.getD i (0, 0)).1), .int .i64 ((qs.getD i (0, 0)).2)]) (by kernel_rfl) (by kernel_rfl) (by kernel_rfl) (ldV_pair (j := i) (by kernel_rfl) (by kernel_rfl) (by omega) (by first | omega | (simp only [Sp.setJ_len, Sp.kp0_len, List.length_set, List.length_replicate]; omega)))) <|
        .a 3 4 <| .nil _ _) ?_
      refine aw_p 523767 (
        .a 2 5 <| .p (does_indexSlice (t := 68) (x := .tmp 58) (y := .tmp 59) (k := 2) (off := 0) (n := qs.length) (c := 0) (z := 1) (kd := .i64) (j := ((i : Nat) : Int)) (by kernel_rfl) (by kernel_rfl) (by kernel_rfl) (by kernel_rfl) (by kernel_rfl) (by omega) (by omega)) <|
        .p (does_load (t := 4) (x := .tmp 60) (k := 2) (off := (0 + (((i : Nat) : Int)).toNat * 1)) (b := ⟨((Sp.setJ (Sp.kp0 qs.length) J).map boolv), 4, true, 1⟩) (v := .bool ((Sp.setJ (Sp.kp0 qs.length) J).getD i false)) (by kernel_rfl) (by kernel_rfl) (by kernel_rfl) (by rw [show (0 + (((i : Nat) : Int)).toNat * 1) = i from (by omega)]; exact ldV_map (f := boolv) (j := i) false (by kernel_rfl) (by kernel_rfl) (by first | omega | (simp only [Sp.setJ_len, Sp.kp0_len, List.length_set, List.length_replicate]; omega)))) <| .nil _ _) ?_
      refine aw_cd 1047534 1047535 ((Sp.setJ (Sp.kp0 qs.length) J).getD i false) (fun h3 => ?_) (fun h3 => ?_)
      · refine aw_p1 (
          .a 3 5 <|
          .p (does_apy 6 29 2 16 3 ((Sp.slF qs (Sp.setJ (Sp.kp0 qs.length) J) i).length) 5 1 ⟨((Sp.slF qs (Sp.setJ (Sp.kp0 qs.length) J) i).flatMap ptc), 29, true, 2⟩ ⟨[.int .i64 ((qs.getD i (0, 0)).1), .int .i64 ((qs.getD i (0, 0)).2)], 29, true, 2⟩ ((Sp.slF qs (Sp.setJ (Sp.kp0 qs.length) J) (i + 1)).flatMap ptc) (by kernel_rfl) (by kernel_rfl) (by kernel_rfl) (by kernel_rfl) (by kernel_rfl) (by show ((Sp.slF qs (Sp.setJ (Sp.kp0 qs.length) J) i).flatMap ptc).length = _; rw [pairs_length]; omega) (by omega) (by omega) (by rw [Sp.slF_y (ps := qs) (kp := (Sp.setJ (Sp.kp0 qs.length) J)) (n := i) (by assumption)]; simp [ptc, pairs_length])) <|
          .a 1 7 <| .nil _ _) ?_
        refine block_normal ?_
        refine then_normal ?_
        refine aw_w [(8, .slice (some ⟨2, 0, none⟩) qs.length 0), (9, .slice (some ⟨6, 0, none⟩) ((Sp.slF qs (Sp.setJ (Sp.kp0 qs.length) J) (i + 1)).length) 0), (10, .int .i64 ((i : Nat) : Int)), (11, .pointer (some ⟨4, 0, none⟩)), (51, .slice (some ⟨1, 0, none⟩) qs.length 0), (52, .int .i64 ((qs.length : Nat) : Int)), (53, .int .i64 ((i : Nat) : Int)), (54, .bool (decide (((i : Nat) : Int) < ((qs.length : Nat) : Int)))), (61, .bool ((Sp.setJ (Sp.kp0 qs.length) J).getD i false))] [(0, ⟨(ps.flatMap ptc), 29, true, 2⟩), (1, ⟨(qs.flatMap ptc), 29, true, 2⟩), (2, ⟨((Sp.setJ (Sp.kp0 qs.length) J).map boolv), 4, true, 1⟩), (4, ⟨[.int .i64 ((qs.getD i (0, 0)).1), .int .i64 ((qs.getD i (0, 0)).2)], 29, true, 2⟩), (6, ⟨((Sp.slF qs (Sp.setJ (Sp.kp0 qs.length) J) (i + 1)).flatMap ptc), 29, true, 2⟩)] ?_ (by (try rw [Sp.slF_ylen (ps := qs) (kp := (Sp.setJ (Sp.kp0 qs.length) J)) (n := i) (by assumption)]); kernel_rfl) (by (try rw [Sp.slF_ylen (ps := qs) (kp := (Sp.setJ (Sp.kp0 qs.length) J)) (n := i) (by assumption)]); kernel_rfl) (hc := (by simp [closedB, valsB, valB, List.all_eq_true, List.mem_flatMap, List.mem_range, List.mem_map, i64v, ptc, boolv, flat1]; try (intros; simp [valsB, valB, flat1]); try decide))
        refine aw_p1 (
          .p (does_i (((i : Nat) : Int) + 1) (wrap_i64 (by omega) (by omega)) .i64) <| .a 1 7 <| .nil _ _) ?_
        refine then_normal ?_
        refine al_r [(3, 6)] [(8, .slice (some ⟨2, 0, none⟩) qs.length 0), (9, .slice (some ⟨6, 0, none⟩) ((Sp.slF qs (Sp.setJ (Sp.kp0 qs.length) J) (i + 1)).length) 0), (51, .slice (some ⟨1, 0, none⟩) qs.length 0), (52, .int .i64 ((qs.length : Nat) : Int)), (53, .int .i64 (((i + 1) : Nat) : Int))] [(0, ⟨(ps.flatMap ptc), 29, true, 2⟩), (1, ⟨(qs.flatMap ptc), 29, true, 2⟩), (2, ⟨((Sp.setJ (Sp.kp0 qs.length) J).map boolv), 4, true, 1⟩), (6, ⟨((Sp.slF qs (Sp.setJ (Sp.kp0 qs.length) J) (i + 1)).flatMap ptc), 29, true, 2⟩)] [(8, .slice (some ⟨2, 0, none⟩) qs.length 0), (9, .slice (some ⟨3, 0, none⟩) ((Sp.slF qs (Sp.setJ (Sp.kp0 qs.length) J) (i + 1)).length) 0), (51, .slice (some ⟨1, 0, none⟩) qs.length 0), (52, .int .i64 ((qs.length : Nat) : Int)), (53, .int .i64 (((i + 1) : Nat) : Int))] [(0, ⟨(ps.flatMap ptc), 29, true, 2⟩), (1, ⟨(qs.flatMap ptc), 29, true, 2⟩), (2, ⟨((Sp.setJ (Sp.kp0 qs.length) J).map boolv), 4, true, 1⟩), (3, ⟨((Sp.slF qs (Sp.setJ (Sp.kp0 qs.length) J) (i + 1)).flatMap ptc), 29, true, 2⟩)] ?_ ⟨rfl, (.slice _ _ _ _ _ rfl), rfl, (.slice _ _ _ _ _ rfl), rfl, (.slice _ _ _ _ _ rfl), rfl, (.flatB (by kernel_rfl)), rfl, (.flatB (by kernel_rfl)), trivial⟩ ⟨rfl, ⟨rfl, rfl, rfl, (.flats (flats_pair _))⟩, rfl, ⟨rfl, rfl, rfl, (.flats (flats_pair _))⟩, rfl, ⟨rfl, rfl, rfl, (.flats (flats_map (fun _ => rfl) _))⟩, rfl, ⟨rfl, rfl, rfl, (.flats (flats_pair _))⟩, trivial⟩
        exact ih2 (i + 1) (show ((i + 1) ≤ qs.length) ∧ ((Sp.slF qs (Sp.setJ (Sp.kp0 qs.length) J) (i + 1)).length ≤ (i + 1)) from ⟨by omega, by exact Sp.slF_len _ _ _⟩) (show qs.length - (i + 1) < qs.length - i from by omega)
      · refine aw_sk ?_
        refine block_normal ?_
        refine then_normal ?_
        refine aw_w [(8, .slice (some ⟨2, 0, none⟩) qs.length 0), (9, .slice (some ⟨3, 0, none⟩) ((Sp.slF qs (Sp.setJ (Sp.kp0 qs.length) J) (i + 1)).length) 0), (10, .int .i64 ((i : Nat) : Int)), (11, .pointer (some ⟨4, 0, none⟩)), (51, .slice (some ⟨1, 0, none⟩) qs.length 0), (52, .int .i64 ((qs.length : Nat) : Int)), (53, .int .i64 ((i : Nat) : Int)), (54, .bool (decide (((i : Nat) : Int) < ((qs.length : Nat) : Int)))), (61, .bool ((Sp.setJ (Sp.kp0 qs.length) J).getD i false))] [(0, ⟨(ps.flatMap ptc), 29, true, 2⟩), (1, ⟨(qs.flatMap ptc), 29, true, 2⟩), (2, ⟨((Sp.setJ (Sp.kp0 qs.length) J).map boolv), 4, true, 1⟩), (3, ⟨((Sp.slF qs (Sp.setJ (Sp.kp0 qs.length) J) (i + 1)).flatMap ptc), 29, true, 2⟩), (4, ⟨[.int .i64 ((qs.getD i (0, 0)).1), .int .i64 ((qs.getD i (0, 0)).2)], 29, true, 2⟩)] ?_ (by (try rw [Sp.slF_n (ps := qs) (kp := (Sp.setJ (Sp.kp0 qs.length) J)) (n := i) (by assumption)]); kernel_rfl) (by (try rw [Sp.slF_n (ps := qs) (kp := (Sp.setJ (Sp.kp0 qs.length) J)) (n := i) (by assumption)]); kernel_rfl) (hc := (by simp [closedB, valsB, valB, List.all_eq_true, List.mem_flatMap, List.mem_range, List.mem_map, i64v, ptc, boolv, flat1]; try (intros; simp [valsB, valB, flat1]); try decide))
        refine aw_p1 (
          .p (does_i (((i : Nat) : Int) + 1) (wrap_i64 (by omega) (by omega)) .i64) <| .a 1 5 <| .nil _ _) ?_
        refine then_normal ?_
        refine al_w [(8, .slice (some ⟨2, 0, none⟩) qs.length 0), (9, .slice (some ⟨3, 0, none⟩) ((Sp.slF qs (Sp.setJ (Sp.kp0 qs.length) J) (i + 1)).length) 0), (51, .slice (some ⟨1, 0, none⟩) qs.length 0), (52, .int .i64 ((qs.length : Nat) : Int)), (53, .int .i64 (((i + 1) : Nat) : Int))] [(0, ⟨(ps.flatMap ptc), 29, true, 2⟩), (1, ⟨(qs.flatMap ptc), 29, true, 2⟩), (2, ⟨((Sp.setJ (Sp.kp0 qs.length) J).map boolv), 4, true, 1⟩), (3, ⟨((Sp.slF qs (Sp.setJ (Sp.kp0 qs.length) J) (i + 1)).flatMap ptc), 29, true, 2⟩)] ?_ (hc := (by simp [closedB, valsB, valB, List.all_eq_true, List.mem_flatMap, List.mem_range, List.mem_map, i64v, ptc, boolv, flat1]; try (intros; simp [valsB, valB, flat1]); try decide))
        exact ih2 (i + 1) (show ((i + 1) ≤ qs.length) ∧ ((Sp.slF qs (Sp.setJ (Sp.kp0 qs.length) J) (i + 1)).length ≤ (i + 1)) from ⟨by omega, by exact Sp.slF_len _ _ _⟩) (show qs.length - (i + 1) < qs.length - i from by omega)
    · have h2p : ¬ ((((i : Nat) : Int) < ((qs.length : Nat) : Int))) := by first | (simpa using h2) | (have h2q := h2; simp at h2q; omega) | (have h2q := bx2 h2; simp at h2q; omega)
      have hin : i = qs.length := by omega
      refine aw_ex 2 ?_
      refine then_exit ?_
      refine then_exit ?_
      refine block_exit ?_
      refine then_normal ?_
      refine aw_w [(9, .slice (some ⟨3, 0, none⟩) ys.length 0)] [(0, ⟨(ps.flatMap ptc), 29, true, 2⟩), (3, ⟨(ys.flatMap ptc), 29, true, 2⟩)] ?_ (by (try rw [← hy, ← hin]); kernel_rfl) (by (try rw [← hy, ← hin]); kernel_rfl) (hc := (by simp [closedB, valsB, valB, List.all_eq_true, List.mem_flatMap, List.mem_range, List.mem_map, i64v, ptc, boolv, flat1]; try (intros; simp [valsB, valB, flat1]); try decide))
      refine aw_p 2047 (
        .a 2 4 <| .nil _ _) ?_
      refine aw_r [(1, 3)] [(4, .slice (some ⟨3, 0, none⟩) ys.length 0)] [(0, ⟨(ps.flatMap ptc), 29, true, 2⟩), (3, ⟨(ys.flatMap ptc), 29, true, 2⟩)] [(4, .slice (some ⟨1, 0, none⟩) ys.length 0)] [(0, ⟨(ps.flatMap ptc), 29, true, 2⟩), (1, ⟨(ys.flatMap ptc), 29, true, 2⟩)] ?_ ⟨rfl, (.slice _ _ _ _ _ rfl), trivial⟩ ⟨rfl, ⟨rfl, rfl, rfl, (.flats (flats_pair _))⟩, rfl, ⟨rfl, rfl, rfl, (.flats (flats_pair _))⟩, trivial⟩
      refine aw_rt ?_
      exact en_ret [.slice (some ⟨1, 0, none⟩) ys.length 0] (by kernel_rfl)

theorem tline_ro (ps qs ys : List (Int × Int)) (hq : ps.map Sp.lmP = qs) (hz : ps.length ≤ 8796093021952) (tol : Int) (h : Sp.Lined tol qs ys) : AC Try.prog 16 1 [.slice (some ⟨0, 0, none⟩) ps.length 0, .int .i64 tol] [(0, ⟨(ps.flatMap ptc), 29, false, 2⟩)] (.slice (some ⟨1, 0, none⟩) ys.length 0) [(1, ⟨(ys.flatMap ptc), 29, true, 2⟩)] := by
  rcases h with ⟨h, rfl⟩ | ⟨h, J, hJ, e⟩
  · exact tline_short_ro ps _ hq hz tol h
  · exact tline_long_ro ps qs ys hq hz tol h J hJ (Sp.Lined.sl h hJ e)
theorem tsmall_ro (ps ys : List (Int × Int)) (hf : Sp.Few 41 ps) (hz : ps.length ≤ 8796093021952) (tol : Int) (h : Sp.Lined tol ps ys) : AC Try.prog 16 1 [.slice (some ⟨0, 0, none⟩) ps.length 0, .int .i64 tol] [(0, ⟨(ps.flatMap ptc), 29, false, 2⟩)] (.slice (some ⟨1, 0, none⟩) ys.length 0) [(1, ⟨(ys.flatMap ptc), 29, true, 2⟩)] := tline_ro ps ps ys (Sp.lim_few (by decide) hf) hz tol h
theorem tline_own (ps qs ys : List (Int × Int)) (hq : ps.map Sp.lmP = qs) (hz : ps.length ≤ 8796093021952) (tol : Int) (h : Sp.Lined tol qs ys) : AC Try.prog 16 1 [.slice (some ⟨0, 0, none⟩) ps.length 0, .int .i64 tol] [(0, ⟨(ps.flatMap ptc), 29, true, 2⟩)] (.slice (some ⟨1, 0, none⟩) ys.length 0) [(0, ⟨(ps.flatMap ptc), 29, true, 2⟩), (1, ⟨(ys.flatMap ptc), 29, true, 2⟩)] := by
  rcases h with ⟨h, rfl⟩ | ⟨h, J, hJ, e⟩
  · exact tline_short_own ps _ hq hz tol h
  · exact tline_long_own ps qs ys hq hz tol h J hJ (Sp.Lined.sl h hJ e)
theorem tsmall_own (ps ys : List (Int × Int)) (hf : Sp.Few 41 ps) (hz : ps.length ≤ 8796093021952) (tol : Int) (h : Sp.Lined tol ps ys) : AC Try.prog 16 1 [.slice (some ⟨0, 0, none⟩) ps.length 0, .int .i64 tol] [(0, ⟨(ps.flatMap ptc), 29, true, 2⟩)] (.slice (some ⟨1, 0, none⟩) ys.length 0) [(0, ⟨(ps.flatMap ptc), 29, true, 2⟩), (1, ⟨(ys.flatMap ptc), 29, true, 2⟩)] := tline_own ps ps ys (Sp.lim_few (by decide) hf) hz tol h

end Go.Proofs.Ytadifmimefmcnaa.Am
