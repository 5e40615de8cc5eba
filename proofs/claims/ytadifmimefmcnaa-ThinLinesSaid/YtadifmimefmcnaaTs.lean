/-
  The walks of the document's thinned line.
-/
import Derived.Test.YtadifmimefmcnaaProg
import Derived.Test.YtadifmimefmcnaaAm16
import Derived.Test.YtadifmimefmcnaaTr2
import Derived.Test.YtadifmimefmcnaaHi
import Derived.Test.YtadifmimefmcnaaTh5
import Derived.Test.YtadifmimefmcnaaAm25
namespace Go.Proofs.Ytadifmimefmcnaa.Am
open Go Go.Proofs
set_option maxRecDepth 100000
set_option maxHeartbeats 4000000
set_option linter.unusedVariables false
set_option linter.unusedSimpArgs false

theorem rlines_nil (ps : List (Int × Int)) (h0 : ps.length = 0) (hz : ps.length ≤ 8796093021952) (tol : Int) (tl : -9223372036854775808 ≤ tol) (tu : tol ≤ 9223372036854775807) :
    AC Try.prog 28 1 ([.slice (some ⟨0, 0, none⟩) ps.length 0, .int .i64 tol]) [(0, ⟨(ps.flatMap ptc), 29, false, 2⟩)] (.slice none 0 0) [] := by
  refine ac_in Try.func28 (fun w0 W pin => ?_)
  refine aw_p 3 (
    .a 1 2 <| .nil _ _) ?_
  refine aw_p 7 (
    .a 1 2 <| .nil _ _) ?_
  refine aw_sq 14 15 ?_
  refine aw_p 29 (
    .a 3 2 <| .nil _ _) ?_
  refine aw_bl 0 59 ?_
  refine aw_lp 119 ?_
  refine al_round ?_
  refine aw_p 239 (
    .p (does_b false ((show (decide (0 < ((ps.length : Nat) : Int))) = false from decide_eq_false (by omega)))) <| .nil _ _) ?_
  refine aw_sq 478 479 ?_
  refine aw_fl 957 ?_
  refine aw_ex 0 ?_
  refine then_exit ?_
  refine then_exit ?_
  refine block_exit ?_
  refine then_normal ?_
  refine aw_sq 30 31 ?_
  refine aw_p 61 (
    .a 3 2 <| .nil _ _) ?_
  refine aw_tr 122 ?_
  refine aw_p 245 (
    .a 2 2 <| .nil _ _) ?_
  refine aw_rt ?_
  refine then_ret ?_
  exact en_ret [.slice none 0 0] (by kernel_rfl)

theorem rlines_short (ps qs : List (Int × Int)) (hq : ps.map Sp.lmP = qs) (h3 : 1 ≤ ps.length ∧ qs.length < 3) (hz : ps.length ≤ 8796093021952) (tol : Int) (tl : -9223372036854775808 ≤ tol) (tu : tol ≤ 9223372036854775807) :
    AC Try.prog 28 1 ([.slice (some ⟨0, 0, none⟩) ps.length 0, .int .i64 tol]) [(0, ⟨(ps.flatMap ptc), 29, false, 2⟩)] (.slice (some ⟨1, 0, none⟩) qs.length 0) [(1, ⟨(qs.flatMap ptc), 29, true, 2⟩)] := by
  have hql : qs.length = ps.length := (by rw [← hq, List.length_map]); have hf : Sp.Few 1048576 qs := (hq ▸ Sp.few_lim ps)
  refine ac_in Try.func28 (fun w0 W pin => ?_)
  refine aw_p 3 (
    .a 1 2 <| .nil _ _) ?_
  refine aw_p 7 (
    .a 1 2 <| .nil _ _) ?_
  refine aw_sq 14 15 ?_
  refine aw_p 29 (
    .a 3 2 <| .nil _ _) ?_
  refine aw_bl 0 59 ?_
  refine aw_lp 119 ?_
  refine al_round ?_
  refine aw_p 239 (
    .p (does_b true ((show (decide (0 < ((ps.length : Nat) : Int))) = true from decide_eq_true (by omega)))) <| .nil _ _) ?_
  refine aw_sq 478 479 ?_
  refine aw_tr 956 ?_
  refine aw_sk ?_
  refine then_normal ?_
  refine aw_sq 958 959 ?_
  refine aw_bl 1 1917 ?_
  refine aw_p 3835 (
    .p (does_indexSlice (t := 24) (x := .tmp 17) (y := .tmp 19) (k := 0) (off := 0) (n := ps.length) (c := 0) (z := 2) (kd := .i64) (j := 0) (by kernel_rfl) (by kernel_rfl) (by kernel_rfl) (by kernel_rfl) (by kernel_rfl) (by omega) (by omega)) <|
    .p (does_load (t := 29) (x := .tmp 21) (k := 0) (off := 0) (b := ⟨(ps.flatMap ptc), 29, false, 2⟩) (v := .agg #[.int .i64 ((ps.getD 0 (0, 0)).1), .int .i64 ((ps.getD 0 (0, 0)).2)]) (by kernel_rfl) (by kernel_rfl) (by kernel_rfl) (ldV_pair (j := 0) (by kernel_rfl) (by kernel_rfl) (by omega) (by omega))) <|
    .a 2 2 <| .nil _ _) ?_
  refine aw_p1 (
    .a 2 3 <| .p (does_c (rvalid_ok ((ps.getD 0 (0, 0)).1) ((ps.getD 0 (0, 0)).2))) <| .a 1 3 <| .p (does_ap 4) <| .a 1 5 <| .nil _ _) ?_
  refine block_normal ?_
  refine then_normal ?_
  have hone : (((ps.take (1)).map Sp.lmP).flatMap ptc) = [.int .i64 (Sp.lim 1048576 ((ps.getD 0 (0, 0)).1)), .int .i64 (Sp.lim 1048576 ((ps.getD 0 (0, 0)).2))] := (Sp.one_take (by omega) rfl)
  refine aw_w [(1, .int .i64 tol), (4, .slice none 0 0), (5, .slice (some ⟨4, 0, none⟩) 1 0), (17, .slice (some ⟨0, 0, none⟩) ps.length 0), (18, .int .i64 ((ps.length : Nat) : Int)), (19, .int .i64 0)] [(0, ⟨(ps.flatMap ptc), 29, false, 2⟩), (4, ⟨(((ps.take (1)).map Sp.lmP).flatMap ptc), 29, true, 2⟩)] ?_ (by kernel_rfl) (by rw [hone]; kernel_rfl) (hc := (by simp [closedB, valsB, valB, List.all_eq_true, List.mem_flatMap, List.mem_range, List.mem_map, i64v, ptc, i64v, flat1]; try (intros; simp [valsB, valB, flat1]); try decide))
  refine aw_p1 (
    .a 2 5 <| .nil _ _) ?_
  refine then_normal ?_
  refine al_w [(1, .int .i64 tol), (4, .slice none 0 0), (5, .slice (some ⟨4, 0, none⟩) 1 0), (17, .slice (some ⟨0, 0, none⟩) ps.length 0), (18, .int .i64 ((ps.length : Nat) : Int)), (19, .int .i64 ((1 : Nat) : Int))] [(0, ⟨(ps.flatMap ptc), 29, false, 2⟩), (4, ⟨(((ps.take 1).map Sp.lmP).flatMap ptc), 29, true, 2⟩)] ?_ (hc := (by simp [closedB, valsB, valB, List.all_eq_true, List.mem_flatMap, List.mem_range, List.mem_map, i64v, ptc, i64v, flat1]; try (intros; simp [valsB, valB, flat1]); try decide))
  refine al_ind (fun i : Nat => (fun (i : Nat) => mkSt 1 [(1, .int .i64 tol), (4, .slice none 0 0), (5, .slice (some ⟨4, 0, none⟩) i 0), (17, .slice (some ⟨0, 0, none⟩) ps.length 0), (18, .int .i64 ((ps.length : Nat) : Int)), (19, .int .i64 ((i : Nat) : Int))] [(0, ⟨(ps.flatMap ptc), 29, false, 2⟩), (4, ⟨(((ps.take i).map Sp.lmP).flatMap ptc), 29, true, 2⟩)]) i) (fun i : Nat => (fun (i : Nat) => (1 ≤ i ∧ i ≤ ps.length)) i) (fun i : Nat => (fun (i : Nat) => ps.length - i) i) (fun i hi1 ih1 => ?_) 1 (show (1 ≤ 1 ∧ 1 ≤ ps.length) from by omega)
  obtain ⟨i, hv1⟩ : ∃ z, z = i := ⟨i, rfl⟩; subst hv1
  have hi1' : (1 ≤ i ∧ i ≤ ps.length) := hi1
  have hi : 1 ≤ i ∧ i ≤ ps.length := hi1'
  show AL _ _ _ (mkSt 1 [(1, .int .i64 tol), (4, .slice none 0 0), (5, .slice (some ⟨4, 0, none⟩) i 0), (17, .slice (some ⟨0, 0, none⟩) ps.length 0), (18, .int .i64 ((ps.length : Nat) : Int)), (19, .int .i64 ((i : Nat) : Int))] [(0, ⟨(ps.flatMap ptc), 29, false, 2⟩), (4, ⟨(((ps.take i).map Sp.lmP).flatMap ptc), 29, true, 2⟩)]) _
  refine al_round ?_
  refine aw_p 239 (
    .a 1 5 <| .nil _ _) ?_
  refine aw_sq 478 479 ?_
  refine aw_cd 956 957 (decide (((i : Nat) : Int) < ((ps.length : Nat) : Int))) (fun h1 => ?_) (fun h1 => ?_)
  · have h1p : ((((i : Nat) : Int) < ((ps.length : Nat) : Int))) := by first | (simpa using h1) | (have h1q := h1; simp at h1q; omega) | (have h1q := bx1 h1; simp at h1q; omega)
    have hil : i < ps.length := by omega
    refine aw_sk ?_
    refine then_normal ?_
    refine aw_sq 958 959 ?_
    refine aw_bl 1 1917 ?_
    refine aw_p 3835 (
      .p (does_indexSlice (t := 24) (x := .tmp 17) (y := .tmp 19) (k := 0) (off := 0) (n := ps.length) (c := 0) (z := 2) (kd := .i64) (j := ((i : Nat) : Int)) (by kernel_rfl) (by kernel_rfl) (by kernel_rfl) (by kernel_rfl) (by kernel_rfl) (by omega) (by omega)) <|
      .p (does_load (t := 29) (x := .tmp 21) (k := 0) (off := (0 + (((i : Nat) : Int)).toNat * 2)) (b := ⟨(ps.flatMap ptc), 29, false, 2⟩) (v := .agg #[.int .i64 ((ps.getD i (0, 0)).1), .int .i64 ((ps.getD i (0, 0)).2)]) (by kernel_rfl) (by kernel_rfl) (by kernel_rfl) (ldV_pair (j := i) (by kernel_rfl) (by kernel_rfl) (by omega) (by omega))) <|
      .a 2 5 <| .nil _ _) ?_
    refine aw_p1 (
      .a 2 6 <| .p (does_c (rvalid_ok ((ps.getD i (0, 0)).1) ((ps.getD i (0, 0)).2))) <| .a 1 6 <|
      .p (does_apy 7 29 2 16 4 i 6 1 ⟨(((ps.take i).map Sp.lmP).flatMap ptc), 29, true, 2⟩ ⟨[.int .i64 (Sp.lim 1048576 ((ps.getD i (0, 0)).1)), .int .i64 (Sp.lim 1048576 ((ps.getD i (0, 0)).2))], 29, true, 2⟩ (((ps.take (i + 1)).map Sp.lmP).flatMap ptc) (by kernel_rfl) (by kernel_rfl) (by kernel_rfl) (by kernel_rfl) (by kernel_rfl) (by show ((((ps.take i).map Sp.lmP).flatMap ptc)).length = _; rw [pairs_length]; simp; omega) (by omega) (by omega) (Sp.snoc_take hil rfl)) <|
      .a 1 8 <| .nil _ _) ?_
    refine block_normal ?_
    refine then_normal ?_
    refine aw_p1 (
      .p (does_i (((i : Nat) : Int) + 1) (wrap_i64 (by omega) (by omega)) .i64) <| .a 1 8 <| .nil _ _) ?_
    refine then_normal ?_
    refine al_r [(4, 7)] [(1, .int .i64 tol), (4, .slice none 0 0), (5, .slice (some ⟨7, 0, none⟩) (i + 1) 0), (17, .slice (some ⟨0, 0, none⟩) ps.length 0), (18, .int .i64 ((ps.length : Nat) : Int)), (19, .int .i64 (((i + 1) : Nat) : Int))] [(0, ⟨(ps.flatMap ptc), 29, false, 2⟩), (7, ⟨(((ps.take (i + 1)).map Sp.lmP).flatMap ptc), 29, true, 2⟩)] [(1, .int .i64 tol), (4, .slice none 0 0), (5, .slice (some ⟨4, 0, none⟩) (i + 1) 0), (17, .slice (some ⟨0, 0, none⟩) ps.length 0), (18, .int .i64 ((ps.length : Nat) : Int)), (19, .int .i64 (((i + 1) : Nat) : Int))] [(0, ⟨(ps.flatMap ptc), 29, false, 2⟩), (4, ⟨(((ps.take (i + 1)).map Sp.lmP).flatMap ptc), 29, true, 2⟩)] ?_ ⟨rfl, (.flatB (by kernel_rfl)), rfl, (.flatB (by kernel_rfl)), rfl, (.slice _ _ _ _ _ rfl), rfl, (.slice _ _ _ _ _ rfl), rfl, (.flatB (by kernel_rfl)), rfl, (.flatB (by kernel_rfl)), trivial⟩ ⟨rfl, ⟨rfl, rfl, rfl, (.flats (flats_pair _))⟩, rfl, ⟨rfl, rfl, rfl, (.flats (flats_pair _))⟩, trivial⟩
    exact ih1 (i + 1) (show (1 ≤ (i + 1) ∧ (i + 1) ≤ ps.length) from by omega) (show ps.length - (i + 1) < ps.length - i from by omega)
  · have h1p : ¬ ((((i : Nat) : Int) < ((ps.length : Nat) : Int))) := by first | (simpa using h1) | (have h1q := h1; simp at h1q; omega) | (have h1q := bx2 h1; simp at h1q; omega)
    have hin : i = ps.length := by omega
    refine aw_ex 0 ?_
    refine then_exit ?_
    refine then_exit ?_
    refine block_exit ?_
    refine then_normal ?_
    refine aw_w [(1, .int .i64 tol), (4, .slice none 0 0), (5, .slice (some ⟨4, 0, none⟩) qs.length 0)] [(0, ⟨(ps.flatMap ptc), 29, false, 2⟩), (4, ⟨(qs.flatMap ptc), 29, true, 2⟩)] ?_ (by (try (first | rw [show qs.length = i from (by omega)] | rw [show qs = (ps.take i).map Sp.lmP from (by rw [hin, List.take_length, hq])])); kernel_rfl) (by (try (first | rw [show qs.length = i from (by omega)] | rw [show qs = (ps.take i).map Sp.lmP from (by rw [hin, List.take_length, hq])])); kernel_rfl) (hc := (by simp [closedB, valsB, valB, List.all_eq_true, List.mem_flatMap, List.mem_range, List.mem_map, i64v, ptc, i64v, flat1]; try (intros; simp [valsB, valB, flat1]); try decide))
    refine aw_sq 30 31 ?_
    refine aw_p 61 (
      .a 2 5 <| .p (does_b true ((show (decide (((qs.length : Nat) : Int) < 3)) = true from decide_eq_true (by omega)))) <| .nil _ _) ?_
    refine aw_tr 122 ?_
    refine aw_p 245 (
      .a 2 5 <| .nil _ _) ?_
    refine aw_r [(1, 4)] [(4, .slice (some ⟨4, 0, none⟩) qs.length 0)] [(0, ⟨(ps.flatMap ptc), 29, false, 2⟩), (4, ⟨(qs.flatMap ptc), 29, true, 2⟩)] [(4, .slice (some ⟨1, 0, none⟩) qs.length 0)] [(0, ⟨(ps.flatMap ptc), 29, false, 2⟩), (1, ⟨(qs.flatMap ptc), 29, true, 2⟩)] ?_ ⟨rfl, (.slice _ _ _ _ _ rfl), trivial⟩ ⟨rfl, ⟨rfl, rfl, rfl, (.flats (flats_pair _))⟩, rfl, ⟨rfl, rfl, rfl, (.flats (flats_pair _))⟩, trivial⟩
    refine aw_rt ?_
    refine then_ret ?_
    exact en_ret [.slice (some ⟨1, 0, none⟩) qs.length 0] (by kernel_rfl)

theorem rlines_long (ps qs ys : List (Int × Int)) (hq : ps.map Sp.lmP = qs) (h3 : 3 ≤ qs.length) (J es : List Nat) (hz : ps.length ≤ 8796093021952) (tol : Int) (tl : -9223372036854775808 ≤ tol) (tu : tol ≤ 9223372036854775807) (hJ : Sp.ThinP qs tol 0 (qs.length - 1) J) (hes : Sp.ends qs.length J = es) (hy : es.map (Sp.ptA qs) = ys) :
    AC Try.prog 28 1 ([.slice (some ⟨0, 0, none⟩) ps.length 0, .int .i64 tol]) [(0, ⟨(ps.flatMap ptc), 29, false, 2⟩)] (.slice (some ⟨1, 0, none⟩) ys.length 0) [(1, ⟨(ys.flatMap ptc), 29, true, 2⟩)] := by
  have hql : qs.length = ps.length := (by rw [← hq, List.length_map]); have hf : Sp.Few 1048576 qs := (hq ▸ Sp.few_lim ps); have hmx : 0 ≤ Sp.mx tol 0 ∧ Sp.mx tol 0 ≤ 9223372036854775807 := (by unfold Sp.mx; split <;> omega); have hel : es.length ≤ qs.length := hes ▸ Sp.ends_le h3 hJ; have hst0 := Sp.stt_start h3 hJ; have he2 : es.length = J.length + 2 := (by rw [← hes, Sp.ends_len]); have hyl : ys.length = es.length := (by rw [← hy, List.length_map]); have hnl := Sp.nI_len es; have he0 : es.getD 0 0 < qs.length := (by have k := Sp.ends_lt h3 hJ (i := 0) (by rw [hes]; omega); rw [hes] at k; exact k)
  refine ac_in Try.func28 (fun w0 W pin => ?_)
  refine aw_p 3 (
    .a 1 2 <| .nil _ _) ?_
  refine aw_p 7 (
    .a 1 2 <| .nil _ _) ?_
  refine aw_sq 14 15 ?_
  refine aw_p 29 (
    .a 3 2 <| .nil _ _) ?_
  refine aw_bl 0 59 ?_
  refine aw_lp 119 ?_
  refine al_round ?_
  refine aw_p 239 (
    .p (does_b true ((show (decide (0 < ((ps.length : Nat) : Int))) = true from decide_eq_true (by omega)))) <| .nil _ _) ?_
  refine aw_sq 478 479 ?_
  refine aw_tr 956 ?_
  refine aw_sk ?_
  refine then_normal ?_
  refine aw_sq 958 959 ?_
  refine aw_bl 1 1917 ?_
  refine aw_p 3835 (
    .p (does_indexSlice (t := 24) (x := .tmp 17) (y := .tmp 19) (k := 0) (off := 0) (n := ps.length) (c := 0) (z := 2) (kd := .i64) (j := 0) (by kernel_rfl) (by kernel_rfl) (by kernel_rfl) (by kernel_rfl) (by kernel_rfl) (by omega) (by omega)) <|
    .p (does_load (t := 29) (x := .tmp 21) (k := 0) (off := 0) (b := ⟨(ps.flatMap ptc), 29, false, 2⟩) (v := .agg #[.int .i64 ((ps.getD 0 (0, 0)).1), .int .i64 ((ps.getD 0 (0, 0)).2)]) (by kernel_rfl) (by kernel_rfl) (by kernel_rfl) (ldV_pair (j := 0) (by kernel_rfl) (by kernel_rfl) (by omega) (by omega))) <|
    .a 2 2 <| .nil _ _) ?_
  refine aw_p1 (
    .a 2 3 <| .p (does_c (rvalid_ok ((ps.getD 0 (0, 0)).1) ((ps.getD 0 (0, 0)).2))) <| .a 1 3 <| .p (does_ap 4) <| .a 1 5 <| .nil _ _) ?_
  refine block_normal ?_
  refine then_normal ?_
  have hone : (((ps.take (1)).map Sp.lmP).flatMap ptc) = [.int .i64 (Sp.lim 1048576 ((ps.getD 0 (0, 0)).1)), .int .i64 (Sp.lim 1048576 ((ps.getD 0 (0, 0)).2))] := (Sp.one_take (by omega) rfl)
  refine aw_w [(1, .int .i64 tol), (4, .slice none 0 0), (5, .slice (some ⟨4, 0, none⟩) 1 0), (17, .slice (some ⟨0, 0, none⟩) ps.length 0), (18, .int .i64 ((ps.length : Nat) : Int)), (19, .int .i64 0)] [(0, ⟨(ps.flatMap ptc), 29, false, 2⟩), (4, ⟨(((ps.take (1)).map Sp.lmP).flatMap ptc), 29, true, 2⟩)] ?_ (by kernel_rfl) (by rw [hone]; kernel_rfl) (hc := (by simp [closedB, valsB, valB, List.all_eq_true, List.mem_flatMap, List.mem_range, List.mem_map, i64v, ptc, i64v, flat1]; try (intros; simp [valsB, valB, flat1]); try decide))
  refine aw_p1 (
    .a 2 5 <| .nil _ _) ?_
  refine then_normal ?_
  refine al_w [(1, .int .i64 tol), (4, .slice none 0 0), (5, .slice (some ⟨4, 0, none⟩) 1 0), (17, .slice (some ⟨0, 0, none⟩) ps.length 0), (18, .int .i64 ((ps.length : Nat) : Int)), (19, .int .i64 ((1 : Nat) : Int))] [(0, ⟨(ps.flatMap ptc), 29, false, 2⟩), (4, ⟨(((ps.take 1).map Sp.lmP).flatMap ptc), 29, true, 2⟩)] ?_ (hc := (by simp [closedB, valsB, valB, List.all_eq_true, List.mem_flatMap, List.mem_range, List.mem_map, i64v, ptc, i64v, flat1]; try (intros; simp [valsB, valB, flat1]); try decide))
  refine al_ind (fun i : Nat => (fun (i : Nat) => mkSt 1 [(1, .int .i64 tol), (4, .slice none 0 0), (5, .slice (some ⟨4, 0, none⟩) i 0), (17, .slice (some ⟨0, 0, none⟩) ps.length 0), (18, .int .i64 ((ps.length : Nat) : Int)), (19, .int .i64 ((i : Nat) : Int))] [(0, ⟨(ps.flatMap ptc), 29, false, 2⟩), (4, ⟨(((ps.take i).map Sp.lmP).flatMap ptc), 29, true, 2⟩)]) i) (fun i : Nat => (fun (i : Nat) => (1 ≤ i ∧ i ≤ ps.length)) i) (fun i : Nat => (fun (i : Nat) => ps.length - i) i) (fun i hi1 ih1 => ?_) 1 (show (1 ≤ 1 ∧ 1 ≤ ps.length) from by omega)
  obtain ⟨i, hv1⟩ : ∃ z, z = i := ⟨i, rfl⟩; subst hv1
  have hi1' : (1 ≤ i ∧ i ≤ ps.length) := hi1
  have hi : 1 ≤ i ∧ i ≤ ps.length := hi1'
  show AL _ _ _ (mkSt 1 [(1, .int .i64 tol), (4, .slice none 0 0), (5, .slice (some ⟨4, 0, none⟩) i 0), (17, .slice (some ⟨0, 0, none⟩) ps.length 0), (18, .int .i64 ((ps.length : Nat) : Int)), (19, .int .i64 ((i : Nat) : Int))] [(0, ⟨(ps.flatMap ptc), 29, false, 2⟩), (4, ⟨(((ps.take i).map Sp.lmP).flatMap ptc), 29, true, 2⟩)]) _
  refine al_round ?_
  refine aw_p 239 (
    .a 1 5 <| .nil _ _) ?_
  refine aw_sq 478 479 ?_
  refine aw_cd 956 957 (decide (((i : Nat) : Int) < ((ps.length : Nat) : Int))) (fun h1 => ?_) (fun h1 => ?_)
  · have h1p : ((((i : Nat) : Int) < ((ps.length : Nat) : Int))) := by first | (simpa using h1) | (have h1q := h1; simp at h1q; omega) | (have h1q := bx1 h1; simp at h1q; omega)
    have hil : i < ps.length := by omega
    refine aw_sk ?_
    refine then_normal ?_
    refine aw_sq 958 959 ?_
    refine aw_bl 1 1917 ?_
    refine aw_p 3835 (
      .p (does_indexSlice (t := 24) (x := .tmp 17) (y := .tmp 19) (k := 0) (off := 0) (n := ps.length) (c := 0) (z := 2) (kd := .i64) (j := ((i : Nat) : Int)) (by kernel_rfl) (by kernel_rfl) (by kernel_rfl) (by kernel_rfl) (by kernel_rfl) (by omega) (by omega)) <|
      .p (does_load (t := 29) (x := .tmp 21) (k := 0) (off := (0 + (((i : Nat) : Int)).toNat * 2)) (b := ⟨(ps.flatMap ptc), 29, false, 2⟩) (v := .agg #[.int .i64 ((ps.getD i (0, 0)).1), .int .i64 ((ps.getD i (0, 0)).2)]) (by kernel_rfl) (by kernel_rfl) (by kernel_rfl) (ldV_pair (j := i) (by kernel_rfl) (by kernel_rfl) (by omega) (by omega))) <|
      .a 2 5 <| .nil _ _) ?_
    refine aw_p1 (
      .a 2 6 <| .p (does_c (rvalid_ok ((ps.getD i (0, 0)).1) ((ps.getD i (0, 0)).2))) <| .a 1 6 <|
      .p (does_apy 7 29 2 16 4 i 6 1 ⟨(((ps.take i).map Sp.lmP).flatMap ptc), 29, true, 2⟩ ⟨[.int .i64 (Sp.lim 1048576 ((ps.getD i (0, 0)).1)), .int .i64 (Sp.lim 1048576 ((ps.getD i (0, 0)).2))], 29, true, 2⟩ (((ps.take (i + 1)).map Sp.lmP).flatMap ptc) (by kernel_rfl) (by kernel_rfl) (by kernel_rfl) (by kernel_rfl) (by kernel_rfl) (by show ((((ps.take i).map Sp.lmP).flatMap ptc)).length = _; rw [pairs_length]; simp; omega) (by omega) (by omega) (Sp.snoc_take hil rfl)) <|
      .a 1 8 <| .nil _ _) ?_
    refine block_normal ?_
    refine then_normal ?_
    refine aw_p1 (
      .p (does_i (((i : Nat) : Int) + 1) (wrap_i64 (by omega) (by omega)) .i64) <| .a 1 8 <| .nil _ _) ?_
    refine then_normal ?_
    refine al_r [(4, 7)] [(1, .int .i64 tol), (4, .slice none 0 0), (5, .slice (some ⟨7, 0, none⟩) (i + 1) 0), (17, .slice (some ⟨0, 0, none⟩) ps.length 0), (18, .int .i64 ((ps.length : Nat) : Int)), (19, .int .i64 (((i + 1) : Nat) : Int))] [(0, ⟨(ps.flatMap ptc), 29, false, 2⟩), (7, ⟨(((ps.take (i + 1)).map Sp.lmP).flatMap ptc), 29, true, 2⟩)] [(1, .int .i64 tol), (4, .slice none 0 0), (5, .slice (some ⟨4, 0, none⟩) (i + 1) 0), (17, .slice (some ⟨0, 0, none⟩) ps.length 0), (18, .int .i64 ((ps.length : Nat) : Int)), (19, .int .i64 (((i + 1) : Nat) : Int))] [(0, ⟨(ps.flatMap ptc), 29, false, 2⟩), (4, ⟨(((ps.take (i + 1)).map Sp.lmP).flatMap ptc), 29, true, 2⟩)] ?_ ⟨rfl, (.flatB (by kernel_rfl)), rfl, (.flatB (by kernel_rfl)), rfl, (.slice _ _ _ _ _ rfl), rfl, (.slice _ _ _ _ _ rfl), rfl, (.flatB (by kernel_rfl)), rfl, (.flatB (by kernel_rfl)), trivial⟩ ⟨rfl, ⟨rfl, rfl, rfl, (.flats (flats_pair _))⟩, rfl, ⟨rfl, rfl, rfl, (.flats (flats_pair _))⟩, trivial⟩
    exact ih1 (i + 1) (show (1 ≤ (i + 1) ∧ (i + 1) ≤ ps.length) from by omega) (show ps.length - (i + 1) < ps.length - i from by omega)
  · have h1p : ¬ ((((i : Nat) : Int) < ((ps.length : Nat) : Int))) := by first | (simpa using h1) | (have h1q := h1; simp at h1q; omega) | (have h1q := bx2 h1; simp at h1q; omega)
    have hin : i = ps.length := by omega
    refine aw_ex 0 ?_
    refine then_exit ?_
    refine then_exit ?_
    refine block_exit ?_
    refine then_normal ?_
    refine aw_w [(1, .int .i64 tol), (4, .slice none 0 0), (5, .slice (some ⟨4, 0, none⟩) qs.length 0)] [(0, ⟨(ps.flatMap ptc), 29, false, 2⟩), (4, ⟨(qs.flatMap ptc), 29, true, 2⟩)] ?_ (by (try (first | rw [show qs.length = i from (by omega)] | rw [show qs = (ps.take i).map Sp.lmP from (by rw [hin, List.take_length, hq])])); kernel_rfl) (by (try (first | rw [show qs.length = i from (by omega)] | rw [show qs = (ps.take i).map Sp.lmP from (by rw [hin, List.take_length, hq])])); kernel_rfl) (hc := (by simp [closedB, valsB, valB, List.all_eq_true, List.mem_flatMap, List.mem_range, List.mem_map, i64v, ptc, i64v, flat1]; try (intros; simp [valsB, valB, flat1]); try decide))
    refine aw_sq 30 31 ?_
    refine aw_p 61 (
      .a 2 5 <| .p (does_b false ((show (decide (((qs.length : Nat) : Int) < 3)) = false from decide_eq_false (by omega)))) <| .nil _ _) ?_
    refine aw_fl 123 ?_
    refine aw_sk ?_
    refine then_normal ?_
    refine aw_p 63 (
      .a 2 5 <| .p (does_i ((qs.length - 1 : Nat) : Int) ((show (IntKind.wrap .i64 (((qs.length : Nat) : Int) - 1)) = ((qs.length - 1 : Nat) : Int) from ((wrap_i64 (by omega) (by omega)).trans (by omega)))) .i64) <| .a 2 5 <| .nil _ _) ?_
    refine aw_p 127 (
      .a 2 6 <| .p (does_i ((qs.length - 1 : Nat) : Int) ((show (IntKind.wrap .i64 (((qs.length : Nat) : Int) - 1)) = ((qs.length - 1 : Nat) : Int) from ((wrap_i64 (by omega) (by omega)).trans (by omega)))) .i64) <| .a 3 6 <| .nil _ _) ?_
    refine aw_sq 254 255 ?_
    refine aw_bl 2 509 ?_
    refine aw_lp 1019 ?_
    refine al_w [(1, .int .i64 tol), (4, .slice none 0 0), (5, .slice (some ⟨4, 0, none⟩) qs.length 0), (8, .slice (some ⟨5, 0, none⟩) ([0, qs.length - 1]).length 0), (9, .slice (some ⟨6, (0 + ([] : List (Int × Int)).length * 2), none⟩) ([((0 : Int), ((qs.length - 1 : Nat) : Int))]).length 0)] [(0, ⟨(ps.flatMap ptc), 29, false, 2⟩), (4, ⟨(qs.flatMap ptc), 29, true, 2⟩), (5, ⟨((Sp.nI ([0, qs.length - 1])).map i64v), 3, true, 1⟩), (6, ⟨((([] : List (Int × Int)) ++ ([((0 : Int), ((qs.length - 1 : Nat) : Int))])).flatMap ptc), 80, true, 2⟩)] ?_ (hc := (by simp [closedB, valsB, valB, List.all_eq_true, List.mem_flatMap, List.mem_range, List.mem_map, i64v, ptc, i64v, flat1]; try (intros; simp [valsB, valB, flat1]); try decide))
    refine al_ind (fun i : List Nat × List (Int × Int) × List (Int × Int) => (fun (ks : List Nat) (g : List (Int × Int)) (td : List (Int × Int)) => mkSt 1 [(1, .int .i64 tol), (4, .slice none 0 0), (5, .slice (some ⟨4, 0, none⟩) qs.length 0), (8, .slice (some ⟨5, 0, none⟩) ks.length 0), (9, .slice (some ⟨6, (0 + g.length * 2), none⟩) td.length 0)] [(0, ⟨(ps.flatMap ptc), 29, false, 2⟩), (4, ⟨(qs.flatMap ptc), 29, true, 2⟩), (5, ⟨((Sp.nI ks).map i64v), 3, true, 1⟩), (6, ⟨((g ++ td).flatMap ptc), 80, true, 2⟩)]) i.1 i.2.1 i.2.2) (fun i : List Nat × List (Int × Int) × List (Int × Int) => (fun (ks : List Nat) (g : List (Int × Int)) (td : List (Int × Int)) => (Sp.Stt qs tol es ks td) ∧ (td.length + 1 ≤ ks.length)) i.1 i.2.1 i.2.2) (fun i : List Nat × List (Int × Int) × List (Int × Int) => (fun (ks : List Nat) (g : List (Int × Int)) (td : List (Int × Int)) => Sp.wgt td) i.1 i.2.1 i.2.2) (fun i hi2 ih2 => ?_) (([0, qs.length - 1]), ([] : List (Int × Int)), ([((0 : Int), ((qs.length - 1 : Nat) : Int))])) (show (Sp.Stt qs tol es ([0, qs.length - 1]) ([((0 : Int), ((qs.length - 1 : Nat) : Int))])) ∧ (([((0 : Int), ((qs.length - 1 : Nat) : Int))]).length + 1 ≤ ([0, qs.length - 1]).length) from ⟨by (rw [← hes]; exact hst0), by (exact Nat.le_refl _)⟩)
    obtain ⟨ks, g, td⟩ := i
    have hi2' : (Sp.Stt qs tol es ks td) ∧ (td.length + 1 ≤ ks.length) := hi2
    obtain ⟨hst, htl⟩ := hi2'
    show AL _ _ _ (mkSt 1 [(1, .int .i64 tol), (4, .slice none 0 0), (5, .slice (some ⟨4, 0, none⟩) qs.length 0), (8, .slice (some ⟨5, 0, none⟩) ks.length 0), (9, .slice (some ⟨6, (0 + g.length * 2), none⟩) td.length 0)] [(0, ⟨(ps.flatMap ptc), 29, false, 2⟩), (4, ⟨(qs.flatMap ptc), 29, true, 2⟩), (5, ⟨((Sp.nI ks).map i64v), 3, true, 1⟩), (6, ⟨((g ++ td).flatMap ptc), 80, true, 2⟩)]) _
    have hkl := Sp.stt_len hst
    refine al_round ?_
    refine aw_sq 2038 2039 ?_
    refine aw_p 4077 (
      .a 3 7 <| .nil _ _) ?_
    refine aw_cd 8154 8155 (decide (((td.length : Nat) : Int) > 0)) (fun h2 => ?_) (fun h2 => ?_)
    · have h2p : ((((td.length : Nat) : Int) > 0)) := by first | (simpa using h2) | (have h2q := h2; simp at h2q; omega) | (have h2q := bx1 h2; simp at h2q; omega)
      obtain ⟨f, t, r, J0, htd, hft, htn, hJ0, M0, hq0, hp0⟩ := Sp.Stt.front hst (by omega)
      have htdl : td.length = r.length + 1 := (by rw [htd]; rfl)
      obtain ⟨g2, hg2⟩ : ∃ z, g ++ [(((f : Nat) : Int), ((t : Nat) : Int))] = z := ⟨_, rfl⟩; have hgl : g2.length = g.length + 1 := (by rw [← hg2]; simp); have hgr : g2 ++ r = g ++ td := (by rw [← hg2, htd]; simp)
      have ff := hf f; have ft := hf t
      refine aw_sk ?_
      refine then_normal ?_
      refine aw_bl 3 4079 ?_
      refine aw_d 8159 (
        .a 1 7 <| .p (does_indexSlice (t := 81) (x := .tmp 45) (y := .const (.int .i64 0)) (k := 6) (off := (0 + g.length * 2)) (n := td.length) (c := 0) (z := 2) (kd := .i64) (j := 0) (by kernel_rfl) (by kernel_rfl) (by kernel_rfl) (by kernel_rfl) (by kernel_rfl) (by omega) (by omega)) <|
        .p (does_indexArr (t := 80) (x := .tmp 46) (y := .const (.int .i64 0)) (k := 6) (off := ((0 + g.length * 2) + 0 * 2)) (n := 2) (z := 1) (kd := .i64) (j := 0) (by kernel_rfl) (by kernel_rfl) (by kernel_rfl) (by kernel_rfl) (by kernel_rfl) (by omega) (by omega)) <|
        .p (does_load (t := 3) (x := .tmp 47) (k := 6) (off := (((0 + g.length * 2) + 0 * 2) + 0 * 1)) (b := ⟨((g ++ td).flatMap ptc), 80, true, 2⟩) (v := .int .i64 (((g ++ td).getD g.length (0, 0)).1)) (by kernel_rfl) (by kernel_rfl) (by kernel_rfl) (ldV_c0 (j := g.length) (by kernel_rfl) (by kernel_rfl) (by omega) (by rw [List.length_append]; omega))) <|
        .a 1 7 <| .p (does_indexSlice (t := 81) (x := .tmp 49) (y := .const (.int .i64 0)) (k := 6) (off := (0 + g.length * 2)) (n := td.length) (c := 0) (z := 2) (kd := .i64) (j := 0) (by kernel_rfl) (by kernel_rfl) (by kernel_rfl) (by kernel_rfl) (by kernel_rfl) (by omega) (by omega)) <|
        .p (does_indexArr (t := 80) (x := .tmp 50) (y := .const (.int .i64 1)) (k := 6) (off := ((0 + g.length * 2) + 0 * 2)) (n := 2) (z := 1) (kd := .i64) (j := 1) (by kernel_rfl) (by kernel_rfl) (by kernel_rfl) (by kernel_rfl) (by kernel_rfl) (by omega) (by omega)) <|
        .p (does_load (t := 3) (x := .tmp 51) (k := 6) (off := (((0 + g.length * 2) + 0 * 2) + 1 * 1)) (b := ⟨((g ++ td).flatMap ptc), 80, true, 2⟩) (v := .int .i64 (((g ++ td).getD g.length (0, 0)).2)) (by kernel_rfl) (by kernel_rfl) (by kernel_rfl) (ldV_c1 (j := g.length) (by kernel_rfl) (by kernel_rfl) (by omega) (by rw [List.length_append]; omega))) <|
        .p (does_i ((f : Nat) : Int) ((show (((g ++ td).getD g.length (0, 0)).1) = ((f : Nat) : Int) from (by rw [Sp.front_get htd]))) .i64) <| .p (does_i ((t : Nat) : Int) ((show (((g ++ td).getD g.length (0, 0)).2) = ((t : Nat) : Int) from (by rw [Sp.front_get htd]))) .i64) <| .nil _ _) ?_
      refine aw_p 16319 (
        .a 1 7 <|
        .p (does_val (v' := .slice (some ⟨6, ((0 + g.length * 2) + 2), none⟩) (td.length - 1) 0) (does_slice (t := 81) (x := .tmp 53) (lo := some (.const (.int .i64 1))) (hi := none) (k := 6) (off := (0 + g.length * 2)) (n := td.length) (c := 0) (z := 2) (l := 1) (h := ((td.length : Nat) : Int)) (m := (td.length - 1)) (b := ⟨((g ++ td).flatMap ptc), 80, true, 2⟩) (by kernel_rfl) (by kernel_rfl) (by kernel_rfl) (by kernel_rfl) (by kernel_rfl) (by kernel_rfl) (by kernel_rfl) (by kernel_rfl) (by omega) (by omega) (by omega) (by omega)) (by kernel_rfl)) <|
        .a 1 7 <| .nil _ _) ?_
      refine aw_w [(1, .int .i64 tol), (4, .slice none 0 0), (5, .slice (some ⟨4, 0, none⟩) qs.length 0), (8, .slice (some ⟨5, 0, none⟩) ks.length 0), (9, .slice (some ⟨6, (0 + g2.length * 2), none⟩) r.length 0), (10, .int .i64 ((f : Nat) : Int)), (11, .int .i64 ((t : Nat) : Int)), (44, .bool (decide (((td.length : Nat) : Int) > 0)))] [(0, ⟨(ps.flatMap ptc), 29, false, 2⟩), (4, ⟨(qs.flatMap ptc), 29, true, 2⟩), (5, ⟨((Sp.nI ks).map i64v), 3, true, 1⟩), (6, ⟨((g2 ++ r).flatMap ptc), 80, true, 2⟩)] ?_ (by (try (first | rw [show 0 + g2.length * 2 = 0 + g.length * 2 + 2 from (by omega), show r.length = td.length - 1 from (by omega)] | rw [hgr])); kernel_rfl) (by (try (first | rw [show 0 + g2.length * 2 = 0 + g.length * 2 + 2 from (by omega), show r.length = td.length - 1 from (by omega)] | rw [hgr])); kernel_rfl) (hc := (by simp [closedB, valsB, valB, List.all_eq_true, List.mem_flatMap, List.mem_range, List.mem_map, i64v, ptc, i64v, flat1]; try (intros; simp [valsB, valB, flat1]); try decide))
      refine aw_p 32639 (
        .a 1 7 <| .nil _ _) ?_
      refine aw_sq 65278 65279 ?_
      refine aw_p 130557 (
        .a 1 7 <| .p (does_i ((t - 1 : Nat) : Int) ((show (IntKind.wrap .i64 (((t : Nat) : Int) - 1)) = ((t - 1 : Nat) : Int) from ((wrap_i64 (by omega) (by omega)).trans (by omega)))) .i64) <| .a 1 7 <| .nil _ _) ?_
      refine aw_bl 4 261115 ?_
      refine aw_lp 522231 ?_
      refine al_w [(1, .int .i64 tol), (4, .slice none 0 0), (5, .slice (some ⟨4, 0, none⟩) qs.length 0), (8, .slice (some ⟨5, 0, none⟩) ks.length 0), (9, .slice (some ⟨6, (0 + g2.length * 2), none⟩) r.length 0), (10, .int .i64 ((f : Nat) : Int)), (11, .int .i64 ((t : Nat) : Int)), (12, .int .i64 (((0 : Nat) : Int) - 1)), (13, .int .i64 (((t - 1) : Nat) : Int))] [(0, ⟨(ps.flatMap ptc), 29, false, 2⟩), (4, ⟨(qs.flatMap ptc), 29, true, 2⟩), (5, ⟨((Sp.nI ks).map i64v), 3, true, 1⟩), (6, ⟨((g2 ++ r).flatMap ptc), 80, true, 2⟩)] ?_ (hc := (by simp [closedB, valsB, valB, List.all_eq_true, List.mem_flatMap, List.mem_range, List.mem_map, i64v, ptc, i64v, flat1]; try (intros; simp [valsB, valB, flat1]); try decide))
      refine al_ind (fun i : Nat × Nat => (fun (e : Nat) (b : Nat) => mkSt 1 [(1, .int .i64 tol), (4, .slice none 0 0), (5, .slice (some ⟨4, 0, none⟩) qs.length 0), (8, .slice (some ⟨5, 0, none⟩) ks.length 0), (9, .slice (some ⟨6, (0 + g2.length * 2), none⟩) r.length 0), (10, .int .i64 ((f : Nat) : Int)), (11, .int .i64 ((t : Nat) : Int)), (12, .int .i64 (((b : Nat) : Int) - 1)), (13, .int .i64 ((e : Nat) : Int))] [(0, ⟨(ps.flatMap ptc), 29, false, 2⟩), (4, ⟨(qs.flatMap ptc), 29, true, 2⟩), (5, ⟨((Sp.nI ks).map i64v), 3, true, 1⟩), (6, ⟨((g2 ++ r).flatMap ptc), 80, true, 2⟩)]) i.1 i.2) (fun i : Nat × Nat => (fun (e : Nat) (b : Nat) => (f ≤ e ∧ e + 1 ≤ t) ∧ (Sp.scd qs tol f t (t - (e + 1)) = b) ∧ (b ≤ t)) i.1 i.2) (fun i : Nat × Nat => (fun (e : Nat) (b : Nat) => e) i.1 i.2) (fun i hi3 ih3 => ?_) ((t - 1), 0) (show (f ≤ (t - 1) ∧ (t - 1) + 1 ≤ t) ∧ (Sp.scd qs tol f t (t - ((t - 1) + 1)) = 0) ∧ (0 ≤ t) from ⟨by omega, by (rw [show t - (t - 1 + 1) = 0 from (by omega)]; rfl), by omega⟩)
      obtain ⟨e, b⟩ := i
      have hi3' : (f ≤ e ∧ e + 1 ≤ t) ∧ (Sp.scd qs tol f t (t - (e + 1)) = b) ∧ (b ≤ t) := hi3
      obtain ⟨he, hb, hbl⟩ := hi3'
      show AL _ _ _ (mkSt 1 [(1, .int .i64 tol), (4, .slice none 0 0), (5, .slice (some ⟨4, 0, none⟩) qs.length 0), (8, .slice (some ⟨5, 0, none⟩) ks.length 0), (9, .slice (some ⟨6, (0 + g2.length * 2), none⟩) r.length 0), (10, .int .i64 ((f : Nat) : Int)), (11, .int .i64 ((t : Nat) : Int)), (12, .int .i64 (((b : Nat) : Int) - 1)), (13, .int .i64 ((e : Nat) : Int))] [(0, ⟨(ps.flatMap ptc), 29, false, 2⟩), (4, ⟨(qs.flatMap ptc), 29, true, 2⟩), (5, ⟨((Sp.nI ks).map i64v), 3, true, 1⟩), (6, ⟨((g2 ++ r).flatMap ptc), 80, true, 2⟩)]) _
      have fe := hf e; have fb := hf (b - 1)
      refine al_round ?_
      refine aw_sq 1044462 1044463 ?_
      refine aw_p 2088925 (
        .a 3 7 <| .nil _ _) ?_
      refine aw_cd 4177850 4177851 (decide (((e : Nat) : Int) > ((f : Nat) : Int))) (fun h3 => ?_) (fun h3 => ?_)
      · have h3p : ((((e : Nat) : Int) > ((f : Nat) : Int))) := by first | (simpa using h3) | (have h3q := h3; simp at h3q; omega) | (have h3q := bx1 h3; simp at h3q; omega)
        refine aw_sk ?_
        refine then_normal ?_
        refine aw_sq 2088926 2088927 ?_
        refine aw_bl 5 4177853 ?_
        rcases Bool.eq_false_or_eq_true (!(Sp.wthn ((qs.getD e (0, 0)).1) ((qs.getD e (0, 0)).2) ((qs.getD f (0, 0)).1) ((qs.getD f (0, 0)).2) ((qs.getD t (0, 0)).1) ((qs.getD t (0, 0)).2) (Sp.mx tol 0))) with h4 | h4
        · rcases Bool.eq_false_or_eq_true (decide ((((b : Nat) : Int) - 1) < 0)) with h5 | h5
          · have h5p : (((((b : Nat) : Int) - 1) < 0)) := by first | (simpa using h5) | (have h5q := h5; simp at h5q; omega) | (have h5q := bx1 h5; simp at h5q; omega)
            refine aw_d 8355707 (
              .a 2 7 <| .p (does_indexSlice (t := 24) (x := .tmp 62) (y := .tmp 63) (k := 4) (off := 0) (n := qs.length) (c := 0) (z := 2) (kd := .i64) (j := ((e : Nat) : Int)) (by kernel_rfl) (by kernel_rfl) (by kernel_rfl) (by kernel_rfl) (by kernel_rfl) (by omega) (by omega)) <|
              .p (does_load (t := 29) (x := .tmp 64) (k := 4) (off := (0 + (((e : Nat) : Int)).toNat * 2)) (b := ⟨(qs.flatMap ptc), 29, true, 2⟩) (v := .agg #[.int .i64 ((qs.getD e (0, 0)).1), .int .i64 ((qs.getD e (0, 0)).2)]) (by kernel_rfl) (by kernel_rfl) (by kernel_rfl) (ldV_pair (j := e) (by kernel_rfl) (by kernel_rfl) (by omega) (by omega))) <|
              .a 2 7 <| .p (does_indexSlice (t := 24) (x := .tmp 66) (y := .tmp 67) (k := 4) (off := 0) (n := qs.length) (c := 0) (z := 2) (kd := .i64) (j := ((f : Nat) : Int)) (by kernel_rfl) (by kernel_rfl) (by kernel_rfl) (by kernel_rfl) (by kernel_rfl) (by omega) (by omega)) <|
              .p (does_load (t := 29) (x := .tmp 68) (k := 4) (off := (0 + (((f : Nat) : Int)).toNat * 2)) (b := ⟨(qs.flatMap ptc), 29, true, 2⟩) (v := .agg #[.int .i64 ((qs.getD f (0, 0)).1), .int .i64 ((qs.getD f (0, 0)).2)]) (by kernel_rfl) (by kernel_rfl) (by kernel_rfl) (ldV_pair (j := f) (by kernel_rfl) (by kernel_rfl) (by omega) (by omega))) <|
              .a 2 7 <| .p (does_indexSlice (t := 24) (x := .tmp 70) (y := .tmp 71) (k := 4) (off := 0) (n := qs.length) (c := 0) (z := 2) (kd := .i64) (j := ((t : Nat) : Int)) (by kernel_rfl) (by kernel_rfl) (by kernel_rfl) (by kernel_rfl) (by kernel_rfl) (by omega) (by omega)) <|
              .p (does_load (t := 29) (x := .tmp 72) (k := 4) (off := (0 + (((t : Nat) : Int)).toNat * 2)) (b := ⟨(qs.flatMap ptc), 29, true, 2⟩) (v := .agg #[.int .i64 ((qs.getD t (0, 0)).1), .int .i64 ((qs.getD t (0, 0)).2)]) (by kernel_rfl) (by kernel_rfl) (by kernel_rfl) (ldV_pair (j := t) (by kernel_rfl) (by kernel_rfl) (by omega) (by omega))) <|
              .a 1 7 <| .p (does_i (Sp.mx tol 0) ((Sp.mx_comm _ _)) .i64) <|
              .p (does_c (rnear_in ((qs.getD e (0, 0)).1) ((qs.getD e (0, 0)).2) ((qs.getD f (0, 0)).1) ((qs.getD f (0, 0)).2) ((qs.getD t (0, 0)).1) ((qs.getD t (0, 0)).2) (Sp.mx tol 0) (by omega) (by omega) (by omega) (by omega) (by omega) (by omega) (by omega) (by omega) (by omega) (by omega) (by omega) (by omega) (by omega) (by omega))) <|
              .p (does_b true (h4)) <| .a 2 7 <| .p (does_b true (h5)) <| .a 21 7 <| .nil _ _) ?_
            refine aw_tr 16711414 ?_
            refine aw_p1 (
              .a 1 7 <| .p (does_i (((e + 1 : Nat) : Int) - 1) ((show ((e : Nat) : Int) = (((e + 1 : Nat) : Int) - 1) from (by omega))) .i64) <| .nil _ _) ?_
            refine block_normal ?_
            refine then_normal ?_
            refine aw_p1 (
              .a 1 7 <| .p (does_i ((e - 1 : Nat) : Int) ((show (IntKind.wrap .i64 (((e : Nat) : Int) - 1)) = ((e - 1 : Nat) : Int) from ((wrap_i64 (by omega) (by omega)).trans (by omega)))) .i64) <| .a 1 7 <| .nil _ _) ?_
            refine then_normal ?_
            refine al_w [(1, .int .i64 tol), (4, .slice none 0 0), (5, .slice (some ⟨4, 0, none⟩) qs.length 0), (8, .slice (some ⟨5, 0, none⟩) ks.length 0), (9, .slice (some ⟨6, (0 + g2.length * 2), none⟩) r.length 0), (10, .int .i64 ((f : Nat) : Int)), (11, .int .i64 ((t : Nat) : Int)), (12, .int .i64 ((((e + 1) : Nat) : Int) - 1)), (13, .int .i64 (((e - 1) : Nat) : Int))] [(0, ⟨(ps.flatMap ptc), 29, false, 2⟩), (4, ⟨(qs.flatMap ptc), 29, true, 2⟩), (5, ⟨((Sp.nI ks).map i64v), 3, true, 1⟩), (6, ⟨((g2 ++ r).flatMap ptc), 80, true, 2⟩)] ?_ (hc := (by simp [closedB, valsB, valB, List.all_eq_true, List.mem_flatMap, List.mem_range, List.mem_map, i64v, ptc, i64v, flat1]; try (intros; simp [valsB, valB, flat1]); try decide))
            exact ih3 ((e - 1), (e + 1)) (show (f ≤ (e - 1) ∧ (e - 1) + 1 ≤ t) ∧ (Sp.scd qs tol f t (t - ((e - 1) + 1)) = (e + 1)) ∧ ((e + 1) ≤ t) from ⟨by omega, by (rw [show t - (e - 1 + 1) = t - e from (by omega)]; first | exact Sp.scd_near (by omega) hb (by first | assumption | exact Sp.nbf (by assumption)) | exact Sp.scd_first (by omega) hb (by first | assumption | exact Sp.nbt (by assumption)) (by omega) | exact Sp.scd_far (by omega) hb (by first | assumption | exact Sp.nbt (by assumption)) (by first | assumption | exact Sp.nbt (by assumption)) | exact Sp.scd_keep (by omega) hb (by omega) (by first | assumption | exact Sp.nbf (by assumption))), by omega⟩) (show (e - 1) < e from by omega)
          · have h5p : ¬ (((((b : Nat) : Int) - 1) < 0)) := by first | (simpa using h5) | (have h5q := h5; simp at h5q; omega) | (have h5q := bx2 h5; simp at h5q; omega)
            refine aw_d 8355707 (
              .a 2 7 <| .p (does_indexSlice (t := 24) (x := .tmp 62) (y := .tmp 63) (k := 4) (off := 0) (n := qs.length) (c := 0) (z := 2) (kd := .i64) (j := ((e : Nat) : Int)) (by kernel_rfl) (by kernel_rfl) (by kernel_rfl) (by kernel_rfl) (by kernel_rfl) (by omega) (by omega)) <|
              .p (does_load (t := 29) (x := .tmp 64) (k := 4) (off := (0 + (((e : Nat) : Int)).toNat * 2)) (b := ⟨(qs.flatMap ptc), 29, true, 2⟩) (v := .agg #[.int .i64 ((qs.getD e (0, 0)).1), .int .i64 ((qs.getD e (0, 0)).2)]) (by kernel_rfl) (by kernel_rfl) (by kernel_rfl) (ldV_pair (j := e) (by kernel_rfl) (by kernel_rfl) (by omega) (by omega))) <|
              .a 2 7 <| .p (does_indexSlice (t := 24) (x := .tmp 66) (y := .tmp 67) (k := 4) (off := 0) (n := qs.length) (c := 0) (z := 2) (kd := .i64) (j := ((f : Nat) : Int)) (by kernel_rfl) (by kernel_rfl) (by kernel_rfl) (by kernel_rfl) (by kernel_rfl) (by omega) (by omega)) <|
              .p (does_load (t := 29) (x := .tmp 68) (k := 4) (off := (0 + (((f : Nat) : Int)).toNat * 2)) (b := ⟨(qs.flatMap ptc), 29, true, 2⟩) (v := .agg #[.int .i64 ((qs.getD f (0, 0)).1), .int .i64 ((qs.getD f (0, 0)).2)]) (by kernel_rfl) (by kernel_rfl) (by kernel_rfl) (ldV_pair (j := f) (by kernel_rfl) (by kernel_rfl) (by omega) (by omega))) <|
              .a 2 7 <| .p (does_indexSlice (t := 24) (x := .tmp 70) (y := .tmp 71) (k := 4) (off := 0) (n := qs.length) (c := 0) (z := 2) (kd := .i64) (j := ((t : Nat) : Int)) (by kernel_rfl) (by kernel_rfl) (by kernel_rfl) (by kernel_rfl) (by kernel_rfl) (by omega) (by omega)) <|
              .p (does_load (t := 29) (x := .tmp 72) (k := 4) (off := (0 + (((t : Nat) : Int)).toNat * 2)) (b := ⟨(qs.flatMap ptc), 29, true, 2⟩) (v := .agg #[.int .i64 ((qs.getD t (0, 0)).1), .int .i64 ((qs.getD t (0, 0)).2)]) (by kernel_rfl) (by kernel_rfl) (by kernel_rfl) (ldV_pair (j := t) (by kernel_rfl) (by kernel_rfl) (by omega) (by omega))) <|
              .a 1 7 <| .p (does_i (Sp.mx tol 0) ((Sp.mx_comm _ _)) .i64) <|
              .p (does_c (rnear_in ((qs.getD e (0, 0)).1) ((qs.getD e (0, 0)).2) ((qs.getD f (0, 0)).1) ((qs.getD f (0, 0)).2) ((qs.getD t (0, 0)).1) ((qs.getD t (0, 0)).2) (Sp.mx tol 0) (by omega) (by omega) (by omega) (by omega) (by omega) (by omega) (by omega) (by omega) (by omega) (by omega) (by omega) (by omega) (by omega) (by omega))) <|
              .p (does_b true (h4)) <| .a 2 7 <| .p (does_b false (h5)) <| .a 3 7 <|
              .p (does_indexSlice (t := 24) (x := .tmp 82) (y := .tmp 83) (k := 4) (off := 0) (n := qs.length) (c := 0) (z := 2) (kd := .i64) (j := ((e : Nat) : Int)) (by kernel_rfl) (by kernel_rfl) (by kernel_rfl) (by kernel_rfl) (by kernel_rfl) (by omega) (by omega)) <|
              .p (does_load (t := 29) (x := .tmp 84) (k := 4) (off := (0 + (((e : Nat) : Int)).toNat * 2)) (b := ⟨(qs.flatMap ptc), 29, true, 2⟩) (v := .agg #[.int .i64 ((qs.getD e (0, 0)).1), .int .i64 ((qs.getD e (0, 0)).2)]) (by kernel_rfl) (by kernel_rfl) (by kernel_rfl) (ldV_pair (j := e) (by kernel_rfl) (by kernel_rfl) (by omega) (by omega))) <|
              .a 1 7 <| .p (does_i ((b - 1 : Nat) : Int) ((show (((b : Nat) : Int) - 1) = ((b - 1 : Nat) : Int) from (by omega))) .i64) <|
              .p (does_indexSlice (t := 24) (x := .tmp 86) (y := .tmp 87) (k := 4) (off := 0) (n := qs.length) (c := 0) (z := 2) (kd := .i64) (j := ((b - 1 : Nat) : Int)) (by kernel_rfl) (by kernel_rfl) (by kernel_rfl) (by kernel_rfl) (by kernel_rfl) (by omega) (by omega)) <|
              .p (does_load (t := 29) (x := .tmp 88) (k := 4) (off := (0 + (((b - 1 : Nat) : Int)).toNat * 2)) (b := ⟨(qs.flatMap ptc), 29, true, 2⟩) (v := .agg #[.int .i64 ((qs.getD (b - 1) (0, 0)).1), .int .i64 ((qs.getD (b - 1) (0, 0)).2)]) (by kernel_rfl) (by kernel_rfl) (by kernel_rfl) (ldV_pair (j := (b - 1)) (by kernel_rfl) (by kernel_rfl) (by omega) (by omega))) <|
              .a 2 7 <| .p (does_indexSlice (t := 24) (x := .tmp 90) (y := .tmp 91) (k := 4) (off := 0) (n := qs.length) (c := 0) (z := 2) (kd := .i64) (j := ((f : Nat) : Int)) (by kernel_rfl) (by kernel_rfl) (by kernel_rfl) (by kernel_rfl) (by kernel_rfl) (by omega) (by omega)) <|
              .p (does_load (t := 29) (x := .tmp 92) (k := 4) (off := (0 + (((f : Nat) : Int)).toNat * 2)) (b := ⟨(qs.flatMap ptc), 29, true, 2⟩) (v := .agg #[.int .i64 ((qs.getD f (0, 0)).1), .int .i64 ((qs.getD f (0, 0)).2)]) (by kernel_rfl) (by kernel_rfl) (by kernel_rfl) (ldV_pair (j := f) (by kernel_rfl) (by kernel_rfl) (by omega) (by omega))) <|
              .a 2 7 <| .p (does_indexSlice (t := 24) (x := .tmp 94) (y := .tmp 95) (k := 4) (off := 0) (n := qs.length) (c := 0) (z := 2) (kd := .i64) (j := ((t : Nat) : Int)) (by kernel_rfl) (by kernel_rfl) (by kernel_rfl) (by kernel_rfl) (by kernel_rfl) (by omega) (by omega)) <|
              .p (does_load (t := 29) (x := .tmp 96) (k := 4) (off := (0 + (((t : Nat) : Int)).toNat * 2)) (b := ⟨(qs.flatMap ptc), 29, true, 2⟩) (v := .agg #[.int .i64 ((qs.getD t (0, 0)).1), .int .i64 ((qs.getD t (0, 0)).2)]) (by kernel_rfl) (by kernel_rfl) (by kernel_rfl) (ldV_pair (j := t) (by kernel_rfl) (by kernel_rfl) (by omega) (by omega))) <|
              .p (does_c ((by have k := rnearer_ok ((qs.getD e (0, 0)).1) ((qs.getD e (0, 0)).2) ((qs.getD (b - 1) (0, 0)).1) ((qs.getD (b - 1) (0, 0)).2) ((qs.getD f (0, 0)).1) ((qs.getD f (0, 0)).2) ((qs.getD t (0, 0)).1) ((qs.getD t (0, 0)).2) (by omega) (by omega) (by omega) (by omega) (by omega) (by omega) (by omega) (by omega) (by omega) (by omega) (by omega) (by omega) (by omega) (by omega) (by omega) (by omega); rw [Sp.nr_eq (by omega) (by omega) (by omega) (by omega) (by omega) (by omega) (by omega) (by omega) (by omega) (by omega) (by omega) (by omega) (by omega) (by omega) (by omega) (by omega)] at k; exact k))) <|
              .a 3 7 <| .nil _ _) ?_
            refine aw_cd 16711414 16711415 (!(Sp.farB ((qs.getD (b - 1) (0, 0)).1) ((qs.getD (b - 1) (0, 0)).2) ((qs.getD e (0, 0)).1) ((qs.getD e (0, 0)).2) ((qs.getD f (0, 0)).1) ((qs.getD f (0, 0)).2) ((qs.getD t (0, 0)).1) ((qs.getD t (0, 0)).2))) (fun h6 => ?_) (fun h6 => ?_)
            · refine aw_p1 (
                .a 1 7 <| .p (does_i (((e + 1 : Nat) : Int) - 1) ((show ((e : Nat) : Int) = (((e + 1 : Nat) : Int) - 1) from (by omega))) .i64) <| .nil _ _) ?_
              refine block_normal ?_
              refine then_normal ?_
              refine aw_p1 (
                .a 1 7 <| .p (does_i ((e - 1 : Nat) : Int) ((show (IntKind.wrap .i64 (((e : Nat) : Int) - 1)) = ((e - 1 : Nat) : Int) from ((wrap_i64 (by omega) (by omega)).trans (by omega)))) .i64) <| .a 1 7 <| .nil _ _) ?_
              refine then_normal ?_
              refine al_w [(1, .int .i64 tol), (4, .slice none 0 0), (5, .slice (some ⟨4, 0, none⟩) qs.length 0), (8, .slice (some ⟨5, 0, none⟩) ks.length 0), (9, .slice (some ⟨6, (0 + g2.length * 2), none⟩) r.length 0), (10, .int .i64 ((f : Nat) : Int)), (11, .int .i64 ((t : Nat) : Int)), (12, .int .i64 ((((e + 1) : Nat) : Int) - 1)), (13, .int .i64 (((e - 1) : Nat) : Int))] [(0, ⟨(ps.flatMap ptc), 29, false, 2⟩), (4, ⟨(qs.flatMap ptc), 29, true, 2⟩), (5, ⟨((Sp.nI ks).map i64v), 3, true, 1⟩), (6, ⟨((g2 ++ r).flatMap ptc), 80, true, 2⟩)] ?_ (hc := (by simp [closedB, valsB, valB, List.all_eq_true, List.mem_flatMap, List.mem_range, List.mem_map, i64v, ptc, i64v, flat1]; try (intros; simp [valsB, valB, flat1]); try decide))
              exact ih3 ((e - 1), (e + 1)) (show (f ≤ (e - 1) ∧ (e - 1) + 1 ≤ t) ∧ (Sp.scd qs tol f t (t - ((e - 1) + 1)) = (e + 1)) ∧ ((e + 1) ≤ t) from ⟨by omega, by (rw [show t - (e - 1 + 1) = t - e from (by omega)]; first | exact Sp.scd_near (by omega) hb (by first | assumption | exact Sp.nbf (by assumption)) | exact Sp.scd_first (by omega) hb (by first | assumption | exact Sp.nbt (by assumption)) (by omega) | exact Sp.scd_far (by omega) hb (by first | assumption | exact Sp.nbt (by assumption)) (by first | assumption | exact Sp.nbt (by assumption)) | exact Sp.scd_keep (by omega) hb (by omega) (by first | assumption | exact Sp.nbf (by assumption))), by omega⟩) (show (e - 1) < e from by omega)
            · refine aw_sk ?_
              refine block_normal ?_
              refine then_normal ?_
              refine aw_p1 (
                .a 1 7 <| .p (does_i ((e - 1 : Nat) : Int) ((show (IntKind.wrap .i64 (((e : Nat) : Int) - 1)) = ((e - 1 : Nat) : Int) from ((wrap_i64 (by omega) (by omega)).trans (by omega)))) .i64) <| .a 1 7 <| .nil _ _) ?_
              refine then_normal ?_
              refine al_w [(1, .int .i64 tol), (4, .slice none 0 0), (5, .slice (some ⟨4, 0, none⟩) qs.length 0), (8, .slice (some ⟨5, 0, none⟩) ks.length 0), (9, .slice (some ⟨6, (0 + g2.length * 2), none⟩) r.length 0), (10, .int .i64 ((f : Nat) : Int)), (11, .int .i64 ((t : Nat) : Int)), (12, .int .i64 (((b : Nat) : Int) - 1)), (13, .int .i64 (((e - 1) : Nat) : Int))] [(0, ⟨(ps.flatMap ptc), 29, false, 2⟩), (4, ⟨(qs.flatMap ptc), 29, true, 2⟩), (5, ⟨((Sp.nI ks).map i64v), 3, true, 1⟩), (6, ⟨((g2 ++ r).flatMap ptc), 80, true, 2⟩)] ?_ (hc := (by simp [closedB, valsB, valB, List.all_eq_true, List.mem_flatMap, List.mem_range, List.mem_map, i64v, ptc, i64v, flat1]; try (intros; simp [valsB, valB, flat1]); try decide))
              exact ih3 ((e - 1), b) (show (f ≤ (e - 1) ∧ (e - 1) + 1 ≤ t) ∧ (Sp.scd qs tol f t (t - ((e - 1) + 1)) = b) ∧ (b ≤ t) from ⟨by omega, by (rw [show t - (e - 1 + 1) = t - e from (by omega)]; first | exact Sp.scd_near (by omega) hb (by first | assumption | exact Sp.nbf (by assumption)) | exact Sp.scd_first (by omega) hb (by first | assumption | exact Sp.nbt (by assumption)) (by omega) | exact Sp.scd_far (by omega) hb (by first | assumption | exact Sp.nbt (by assumption)) (by first | assumption | exact Sp.nbt (by assumption)) | exact Sp.scd_keep (by omega) hb (by omega) (by first | assumption | exact Sp.nbf (by assumption))), by omega⟩) (show (e - 1) < e from by omega)
        · refine aw_d 8355707 (
            .a 2 7 <| .p (does_indexSlice (t := 24) (x := .tmp 62) (y := .tmp 63) (k := 4) (off := 0) (n := qs.length) (c := 0) (z := 2) (kd := .i64) (j := ((e : Nat) : Int)) (by kernel_rfl) (by kernel_rfl) (by kernel_rfl) (by kernel_rfl) (by kernel_rfl) (by omega) (by omega)) <|
            .p (does_load (t := 29) (x := .tmp 64) (k := 4) (off := (0 + (((e : Nat) : Int)).toNat * 2)) (b := ⟨(qs.flatMap ptc), 29, true, 2⟩) (v := .agg #[.int .i64 ((qs.getD e (0, 0)).1), .int .i64 ((qs.getD e (0, 0)).2)]) (by kernel_rfl) (by kernel_rfl) (by kernel_rfl) (ldV_pair (j := e) (by kernel_rfl) (by kernel_rfl) (by omega) (by omega))) <|
            .a 2 7 <| .p (does_indexSlice (t := 24) (x := .tmp 66) (y := .tmp 67) (k := 4) (off := 0) (n := qs.length) (c := 0) (z := 2) (kd := .i64) (j := ((f : Nat) : Int)) (by kernel_rfl) (by kernel_rfl) (by kernel_rfl) (by kernel_rfl) (by kernel_rfl) (by omega) (by omega)) <|
            .p (does_load (t := 29) (x := .tmp 68) (k := 4) (off := (0 + (((f : Nat) : Int)).toNat * 2)) (b := ⟨(qs.flatMap ptc), 29, true, 2⟩) (v := .agg #[.int .i64 ((qs.getD f (0, 0)).1), .int .i64 ((qs.getD f (0, 0)).2)]) (by kernel_rfl) (by kernel_rfl) (by kernel_rfl) (ldV_pair (j := f) (by kernel_rfl) (by kernel_rfl) (by omega) (by omega))) <|
            .a 2 7 <| .p (does_indexSlice (t := 24) (x := .tmp 70) (y := .tmp 71) (k := 4) (off := 0) (n := qs.length) (c := 0) (z := 2) (kd := .i64) (j := ((t : Nat) : Int)) (by kernel_rfl) (by kernel_rfl) (by kernel_rfl) (by kernel_rfl) (by kernel_rfl) (by omega) (by omega)) <|
            .p (does_load (t := 29) (x := .tmp 72) (k := 4) (off := (0 + (((t : Nat) : Int)).toNat * 2)) (b := ⟨(qs.flatMap ptc), 29, true, 2⟩) (v := .agg #[.int .i64 ((qs.getD t (0, 0)).1), .int .i64 ((qs.getD t (0, 0)).2)]) (by kernel_rfl) (by kernel_rfl) (by kernel_rfl) (ldV_pair (j := t) (by kernel_rfl) (by kernel_rfl) (by omega) (by omega))) <|
            .a 1 7 <| .p (does_i (Sp.mx tol 0) ((Sp.mx_comm _ _)) .i64) <|
            .p (does_c (rnear_in ((qs.getD e (0, 0)).1) ((qs.getD e (0, 0)).2) ((qs.getD f (0, 0)).1) ((qs.getD f (0, 0)).2) ((qs.getD t (0, 0)).1) ((qs.getD t (0, 0)).2) (Sp.mx tol 0) (by omega) (by omega) (by omega) (by omega) (by omega) (by omega) (by omega) (by omega) (by omega) (by omega) (by omega) (by omega) (by omega) (by omega))) <|
            .p (does_b false (h4)) <| .a 24 7 <| .nil _ _) ?_
          refine aw_fl 16711415 ?_
          refine aw_sk ?_
          refine block_normal ?_
          refine then_normal ?_
          refine aw_p1 (
            .a 1 7 <| .p (does_i ((e - 1 : Nat) : Int) ((show (IntKind.wrap .i64 (((e : Nat) : Int) - 1)) = ((e - 1 : Nat) : Int) from ((wrap_i64 (by omega) (by omega)).trans (by omega)))) .i64) <| .a 1 7 <| .nil _ _) ?_
          refine then_normal ?_
          refine al_w [(1, .int .i64 tol), (4, .slice none 0 0), (5, .slice (some ⟨4, 0, none⟩) qs.length 0), (8, .slice (some ⟨5, 0, none⟩) ks.length 0), (9, .slice (some ⟨6, (0 + g2.length * 2), none⟩) r.length 0), (10, .int .i64 ((f : Nat) : Int)), (11, .int .i64 ((t : Nat) : Int)), (12, .int .i64 (((b : Nat) : Int) - 1)), (13, .int .i64 (((e - 1) : Nat) : Int))] [(0, ⟨(ps.flatMap ptc), 29, false, 2⟩), (4, ⟨(qs.flatMap ptc), 29, true, 2⟩), (5, ⟨((Sp.nI ks).map i64v), 3, true, 1⟩), (6, ⟨((g2 ++ r).flatMap ptc), 80, true, 2⟩)] ?_ (hc := (by simp [closedB, valsB, valB, List.all_eq_true, List.mem_flatMap, List.mem_range, List.mem_map, i64v, ptc, i64v, flat1]; try (intros; simp [valsB, valB, flat1]); try decide))
          exact ih3 ((e - 1), b) (show (f ≤ (e - 1) ∧ (e - 1) + 1 ≤ t) ∧ (Sp.scd qs tol f t (t - ((e - 1) + 1)) = b) ∧ (b ≤ t) from ⟨by omega, by (rw [show t - (e - 1 + 1) = t - e from (by omega)]; first | exact Sp.scd_near (by omega) hb (by first | assumption | exact Sp.nbf (by assumption)) | exact Sp.scd_first (by omega) hb (by first | assumption | exact Sp.nbt (by assumption)) (by omega) | exact Sp.scd_far (by omega) hb (by first | assumption | exact Sp.nbt (by assumption)) (by first | assumption | exact Sp.nbt (by assumption)) | exact Sp.scd_keep (by omega) hb (by omega) (by first | assumption | exact Sp.nbf (by assumption))), by omega⟩) (show (e - 1) < e from by omega)
      · have h3p : ¬ ((((e : Nat) : Int) > ((f : Nat) : Int))) := by first | (simpa using h3) | (have h3q := h3; simp at h3q; omega) | (have h3q := bx2 h3; simp at h3q; omega)
        have hef : e = f := by omega
        have hbf : Sp.scd qs tol f t (t - (f + 1)) = b := (by rw [← hb, hef])
        refine aw_ex 4 ?_
        refine then_exit ?_
        refine then_exit ?_
        refine block_exit ?_
        refine then_normal ?_
        refine aw_p 130559 (
          .a 2 7 <| .nil _ _) ?_
        refine aw_cd 261118 261119 (decide ((((b : Nat) : Int) - 1) > 0)) (fun h7 => ?_) (fun h7 => ?_)
        · have h7p : (((((b : Nat) : Int) - 1) > 0)) := by first | (simpa using h7) | (have h7q := h7; simp at h7q; omega) | (have h7q := bx1 h7; simp at h7q; omega)
          obtain ⟨m, hm⟩ : ∃ m, b = m + 1 := ⟨b - 1, by omega⟩
          have hsm := Sp.stt_more hJ0 htn hq0 hp0 (hbf.trans hm)
          refine aw_p 522237 (
            .a 1 7 <| .p (does_i ((m : Nat) : Int) ((show (((b : Nat) : Int) - 1) = ((m : Nat) : Int) from (by omega))) .i64) <| .a 1 7 <|
            .p (does_apy 8 3 1 8 5 ks.length 7 1 ⟨((Sp.nI ks).map i64v), 3, true, 1⟩ ⟨[.int .i64 ((m : Nat) : Int)], 3, true, 1⟩ ((Sp.nI (ks ++ [m])).map i64v) (by kernel_rfl) (by kernel_rfl) (by kernel_rfl) (by kernel_rfl) (by kernel_rfl) (by show ((Sp.nI ks).map i64v).length = _; rw [List.length_map, Sp.nI_len, Nat.mul_one]) (by omega) (by omega) (by rw [← Sp.nI_snoc]; simp [i64v])) <|
            .a 1 9 <| .nil _ _) ?_
          refine aw_p1 (
            .a 2 9 <| .p (does_i ((m : Nat) : Int) ((show (((b : Nat) : Int) - 1) = ((m : Nat) : Int) from (by omega))) .i64) <| .a 1 9 <| .p (does_i ((m : Nat) : Int) ((show (((b : Nat) : Int) - 1) = ((m : Nat) : Int) from (by omega))) .i64) <| .a 3 9 <|
            .p (does_apo 10 80 2 16 6 (0 + g2.length * 2) r.length 9 2 ⟨((g2 ++ r).flatMap ptc), 80, true, 2⟩ ⟨[.int .i64 ((f : Nat) : Int), .int .i64 ((m : Nat) : Int), .int .i64 ((m : Nat) : Int), .int .i64 ((t : Nat) : Int)], 80, true, 2⟩ ((r ++ [(((f : Nat) : Int), ((m : Nat) : Int)), (((m : Nat) : Int), ((t : Nat) : Int))]).flatMap ptc) (by kernel_rfl) (by kernel_rfl) (by kernel_rfl) (by kernel_rfl) (by kernel_rfl) (by show _ ≤ ((g2 ++ r).flatMap ptc).length; rw [pairs_length, List.length_append]; omega) (by omega) (by omega) ((rest_pairs (by omega) (by omega)).trans (by simp [ptc]))) <|
            .a 1 11 <| .nil _ _) ?_
          refine block_normal ?_
          refine then_normal ?_
          refine al_w [(1, .int .i64 tol), (4, .slice none 0 0), (5, .slice (some ⟨4, 0, none⟩) qs.length 0), (8, .slice (some ⟨8, 0, none⟩) ((ks ++ [m]).length) 0), (9, .slice (some ⟨10, 0, none⟩) ((r ++ [(((f : Nat) : Int), ((m : Nat) : Int)), (((m : Nat) : Int), ((t : Nat) : Int))]).length) 0)] [(0, ⟨(ps.flatMap ptc), 29, false, 2⟩), (4, ⟨(qs.flatMap ptc), 29, true, 2⟩), (8, ⟨((Sp.nI (ks ++ [m])).map i64v), 3, true, 1⟩), (10, ⟨((r ++ [(((f : Nat) : Int), ((m : Nat) : Int)), (((m : Nat) : Int), ((t : Nat) : Int))]).flatMap ptc), 80, true, 2⟩)] ?_ (by (rw [show (ks ++ [m]).length = ks.length + 1 from (by simp), show (r ++ [(((f : Nat) : Int), ((m : Nat) : Int)), (((m : Nat) : Int), ((t : Nat) : Int))]).length = r.length + 2 from (by simp)]); kernel_rfl) (by kernel_rfl) (hc := (by simp [closedB, valsB, valB, List.all_eq_true, List.mem_flatMap, List.mem_range, List.mem_map, i64v, ptc, i64v, flat1]; try (intros; simp [valsB, valB, flat1]); try decide))
          refine al_r [(5, 8), (6, 10)] [(1, .int .i64 tol), (4, .slice none 0 0), (5, .slice (some ⟨4, 0, none⟩) qs.length 0), (8, .slice (some ⟨8, 0, none⟩) (ks ++ [m]).length 0), (9, .slice (some ⟨10, (0 + ([] : List (Int × Int)).length * 2), none⟩) (r ++ [(((f : Nat) : Int), ((m : Nat) : Int)), (((m : Nat) : Int), ((t : Nat) : Int))]).length 0)] [(0, ⟨(ps.flatMap ptc), 29, false, 2⟩), (4, ⟨(qs.flatMap ptc), 29, true, 2⟩), (8, ⟨((Sp.nI (ks ++ [m])).map i64v), 3, true, 1⟩), (10, ⟨((([] : List (Int × Int)) ++ (r ++ [(((f : Nat) : Int), ((m : Nat) : Int)), (((m : Nat) : Int), ((t : Nat) : Int))])).flatMap ptc), 80, true, 2⟩)] [(1, .int .i64 tol), (4, .slice none 0 0), (5, .slice (some ⟨4, 0, none⟩) qs.length 0), (8, .slice (some ⟨5, 0, none⟩) (ks ++ [m]).length 0), (9, .slice (some ⟨6, (0 + ([] : List (Int × Int)).length * 2), none⟩) (r ++ [(((f : Nat) : Int), ((m : Nat) : Int)), (((m : Nat) : Int), ((t : Nat) : Int))]).length 0)] [(0, ⟨(ps.flatMap ptc), 29, false, 2⟩), (4, ⟨(qs.flatMap ptc), 29, true, 2⟩), (5, ⟨((Sp.nI (ks ++ [m])).map i64v), 3, true, 1⟩), (6, ⟨((([] : List (Int × Int)) ++ (r ++ [(((f : Nat) : Int), ((m : Nat) : Int)), (((m : Nat) : Int), ((t : Nat) : Int))])).flatMap ptc), 80, true, 2⟩)] ?_ ⟨rfl, (.flatB (by kernel_rfl)), rfl, (.flatB (by kernel_rfl)), rfl, (.slice _ _ _ _ _ rfl), rfl, (.slice _ _ _ _ _ rfl), rfl, (.slice _ _ _ _ _ rfl), trivial⟩ ⟨rfl, ⟨rfl, rfl, rfl, (.flats (flats_pair _))⟩, rfl, ⟨rfl, rfl, rfl, (.flats (flats_pair _))⟩, rfl, ⟨rfl, rfl, rfl, (.flats (flats_map (fun _ => rfl) _))⟩, rfl, ⟨rfl, rfl, rfl, (.flats (flats_pair _))⟩, trivial⟩
          exact ih2 ((ks ++ [m]), ([] : List (Int × Int)), (r ++ [(((f : Nat) : Int), ((m : Nat) : Int)), (((m : Nat) : Int), ((t : Nat) : Int))])) (show (Sp.Stt qs tol es (ks ++ [m]) (r ++ [(((f : Nat) : Int), ((m : Nat) : Int)), (((m : Nat) : Int), ((t : Nat) : Int))])) ∧ ((r ++ [(((f : Nat) : Int), ((m : Nat) : Int)), (((m : Nat) : Int), ((t : Nat) : Int))]).length + 1 ≤ (ks ++ [m]).length) from ⟨by (first | exact hsm.2 | exact Sp.stt_none hJ0 hq0 hp0 (hbf.trans hbz)), by (first | (simp only [List.length_append, List.length_cons, List.length_nil]; omega) | omega)⟩) (show Sp.wgt (r ++ [(((f : Nat) : Int), ((m : Nat) : Int)), (((m : Nat) : Int), ((t : Nat) : Int))]) < Sp.wgt td from by (rw [htd]; first | exact Sp.wgt_lt2 hsm.1.1 hsm.1.2 | exact Sp.wgt_lt1 hft))
        · have h7p : ¬ (((((b : Nat) : Int) - 1) > 0)) := by first | (simpa using h7) | (have h7q := h7; simp at h7q; omega) | (have h7q := bx2 h7; simp at h7q; omega)
          have hbz : b = 0 := (by rcases Nat.eq_zero_or_pos b with z | z; exact z; have k := (Sp.stt_more hJ0 htn hq0 hp0 (hbf.trans (show b = 0 + 1 by omega))).1; omega)
          refine aw_sk ?_
          refine block_normal ?_
          refine then_normal ?_
          refine al_w [(1, .int .i64 tol), (4, .slice none 0 0), (5, .slice (some ⟨4, 0, none⟩) qs.length 0), (8, .slice (some ⟨5, 0, none⟩) ks.length 0), (9, .slice (some ⟨6, (0 + g2.length * 2), none⟩) r.length 0)] [(0, ⟨(ps.flatMap ptc), 29, false, 2⟩), (4, ⟨(qs.flatMap ptc), 29, true, 2⟩), (5, ⟨((Sp.nI ks).map i64v), 3, true, 1⟩), (6, ⟨((g2 ++ r).flatMap ptc), 80, true, 2⟩)] ?_ (hc := (by simp [closedB, valsB, valB, List.all_eq_true, List.mem_flatMap, List.mem_range, List.mem_map, i64v, ptc, i64v, flat1]; try (intros; simp [valsB, valB, flat1]); try decide))
          exact ih2 (ks, g2, r) (show (Sp.Stt qs tol es ks r) ∧ (r.length + 1 ≤ ks.length) from ⟨by (first | exact hsm.2 | exact Sp.stt_none hJ0 hq0 hp0 (hbf.trans hbz)), by (first | (simp only [List.length_append, List.length_cons, List.length_nil]; omega) | omega)⟩) (show Sp.wgt r < Sp.wgt td from by (rw [htd]; first | exact Sp.wgt_lt2 hsm.1.1 hsm.1.2 | exact Sp.wgt_lt1 hft))
    · have h2p : ¬ ((((td.length : Nat) : Int) > 0)) := by first | (simpa using h2) | (have h2q := h2; simp at h2q; omega) | (have h2q := bx2 h2; simp at h2q; omega)
      have hpm := Sp.stt_end hst (by omega)
      have hkl2 := hpm.length_eq
      have hse : ((Sp.nI ks).mergeSort fun x y => decide (x ≤ y)) = Sp.nI es := (by rw [← hes] at hpm ⊢; exact Sp.sorted_ends (by omega) (Sp.Thin.rise hJ) hpm)
      refine aw_ex 2 ?_
      refine then_exit ?_
      refine then_exit ?_
      refine block_exit ?_
      refine then_normal ?_
      refine aw_w [(4, .slice none 0 0), (5, .slice (some ⟨4, 0, none⟩) qs.length 0), (8, .slice (some ⟨5, 0, none⟩) ((Sp.nI ks).length) 0)] [(0, ⟨(ps.flatMap ptc), 29, false, 2⟩), (4, ⟨(qs.flatMap ptc), 29, true, 2⟩), (5, ⟨((Sp.nI ks).map i64v), 3, true, 1⟩)] ?_ (by (try rw [Sp.nI_len]); kernel_rfl) (by (try rw [Sp.nI_len]); kernel_rfl) (hc := (by simp [closedB, valsB, valB, List.all_eq_true, List.mem_flatMap, List.mem_range, List.mem_map, i64v, ptc, i64v, flat1]; try (intros; simp [valsB, valB, flat1]); try decide))
      refine aw_p 511 (
        .a 1 7 <|
        .p (does_callB (x := .func 75) (ars := #[.tmp 118]) (ats := #[22]) (g := 75) (vs := [.slice (some ⟨5, 0, none⟩) ((Sp.nI ks).length) 0]) (m := 1) (r := 0) (firsts := #[]) (caps := #[]) (args0 := [.slice (some ⟨0, 0, none⟩) ((Sp.nI ks).length) 0]) (pre0 := [(0, ⟨((Sp.nI ks).map i64v), 3, true, 1⟩)]) (post0 := [(0, ⟨(((Sp.nI ks).mergeSort fun x y => decide (x ≤ y)).map i64v), 3, true, 1⟩)]) (pre := [(5, ⟨((Sp.nI ks).map i64v), 3, true, 1⟩)]) (post := [(5, ⟨(((Sp.nI ks).mergeSort fun x y => decide (x ≤ y)).map i64v), 3, true, 1⟩)]) (v0 := .tuple #[]) (v := .tuple #[]) [5] (by kernel_rfl) (by kernel_rfl) (by kernel_rfl) (by kernel_rfl) (ac_sortI Sh.sortsI (Sp.nI ks) (by rw [Sp.nI_len]; omega) (by rw [Sp.nI_len]; omega)) (.cons (.slice _ _ _ _ _ (by decide)) .nil) ⟨rfl, ⟨rfl, rfl, rfl, (.flats (flats_map (fun _ => rfl) _))⟩, trivial⟩ (by kernel_rfl) (by kernel_rfl) (by kernel_rfl) ⟨rfl, ⟨rfl, rfl, rfl, (.flats (flats_map (fun _ => rfl) _))⟩, trivial⟩ (.flatB (by kernel_rfl))) <| .nil _ _) ?_
      refine aw_w [(4, .slice none 0 0), (5, .slice (some ⟨4, 0, none⟩) qs.length 0), (8, .slice (some ⟨5, 0, none⟩) es.length 0)] [(0, ⟨(ps.flatMap ptc), 29, false, 2⟩), (4, ⟨(qs.flatMap ptc), 29, true, 2⟩), (5, ⟨((Sp.nI es).map i64v), 3, true, 1⟩)] ?_ (by (try (first | rw [show es.length = (Sp.nI ks).length from (by rw [Sp.nI_len, hkl2])] | rw [← hse])); kernel_rfl) (by (try (first | rw [show es.length = (Sp.nI ks).length from (by rw [Sp.nI_len, hkl2])] | rw [← hse])); kernel_rfl) (hc := (by simp [closedB, valsB, valB, List.all_eq_true, List.mem_flatMap, List.mem_range, List.mem_map, i64v, ptc, i64v, flat1]; try (intros; simp [valsB, valB, flat1]); try decide))
      refine aw_p 1023 (
        .a 1 7 <| .nil _ _) ?_
      refine aw_sq 2046 2047 ?_
      refine aw_p 4093 (
        .a 3 7 <| .nil _ _) ?_
      refine aw_bl 6 8187 ?_
      refine aw_lp 16375 ?_
      refine al_round ?_
      refine aw_p 32751 (
        .p (does_b true ((show (decide (0 < ((es.length : Nat) : Int))) = true from decide_eq_true (by omega)))) <| .nil _ _) ?_
      refine aw_sq 65502 65503 ?_
      refine aw_tr 131004 ?_
      refine aw_sk ?_
      refine then_normal ?_
      refine aw_sq 131006 131007 ?_
      refine aw_bl 7 262013 ?_
      refine aw_p 524027 (
        .p (does_indexSlice (t := 22) (x := .tmp 120) (y := .tmp 122) (k := 5) (off := 0) (n := es.length) (c := 0) (z := 1) (kd := .i64) (j := 0) (by kernel_rfl) (by kernel_rfl) (by kernel_rfl) (by kernel_rfl) (by kernel_rfl) (by omega) (by omega)) <|
        .p (does_int (n' := ((es.getD 0 0 : Nat) : Int)) (does_load (t := 3) (x := .tmp 124) (k := 5) (off := 0) (b := ⟨((Sp.nI es).map i64v), 3, true, 1⟩) (v := .int .i64 ((Sp.nI es).getD 0 0)) (by kernel_rfl) (by kernel_rfl) (by kernel_rfl) (by rw [show 0 = 0 from (by omega)]; exact ldV_map (f := i64v) (j := 0) 0 (by kernel_rfl) (by kernel_rfl) (by omega))) ((show ((Sp.nI es).getD 0 0) = ((es.getD 0 0 : Nat) : Int) from (Sp.nI_get (by omega))))) <|
        .a 1 7 <| .nil _ _) ?_
      refine aw_p1 (
        .a 3 7 <| .p (does_indexSlice (t := 24) (x := .tmp 127) (y := .tmp 128) (k := 4) (off := 0) (n := qs.length) (c := 0) (z := 2) (kd := .i64) (j := ((es.getD 0 0 : Nat) : Int)) (by kernel_rfl) (by kernel_rfl) (by kernel_rfl) (by kernel_rfl) (by kernel_rfl) (by omega) (by omega)) <|
        .p (does_load (t := 29) (x := .tmp 129) (k := 4) (off := (0 + (((es.getD 0 0 : Nat) : Int)).toNat * 2)) (b := ⟨(qs.flatMap ptc), 29, true, 2⟩) (v := .agg #[.int .i64 ((qs.getD (es.getD 0 0) (0, 0)).1), .int .i64 ((qs.getD (es.getD 0 0) (0, 0)).2)]) (by kernel_rfl) (by kernel_rfl) (by kernel_rfl) (ldV_pair (j := (es.getD 0 0)) (by kernel_rfl) (by kernel_rfl) (by omega) (by omega))) <|
        .a 1 7 <| .p (does_ap 8) <| .a 1 9 <| .nil _ _) ?_
      refine block_normal ?_
      refine then_normal ?_
      have hone : (((es.take (1)).map (Sp.ptA qs)).flatMap ptc) = [.int .i64 ((qs.getD (es.getD 0 0) (0, 0)).1), .int .i64 ((qs.getD (es.getD 0 0) (0, 0)).2)] := (by have k := Sp.at_snoc (qs := qs) (es := es) (i := 0) (by omega); rw [Nat.zero_add] at k; rw [k]; simp [ptc])
      refine aw_w [(4, .slice none 0 0), (5, .slice (some ⟨4, 0, none⟩) qs.length 0), (14, .slice (some ⟨8, 0, none⟩) 1 0), (120, .slice (some ⟨5, 0, none⟩) es.length 0), (121, .int .i64 ((es.length : Nat) : Int)), (122, .int .i64 0)] [(0, ⟨(ps.flatMap ptc), 29, false, 2⟩), (4, ⟨(qs.flatMap ptc), 29, true, 2⟩), (5, ⟨((Sp.nI es).map i64v), 3, true, 1⟩), (8, ⟨(((es.take (1)).map (Sp.ptA qs)).flatMap ptc), 29, true, 2⟩)] ?_ (by kernel_rfl) (by rw [hone]; kernel_rfl) (hc := (by simp [closedB, valsB, valB, List.all_eq_true, List.mem_flatMap, List.mem_range, List.mem_map, i64v, ptc, i64v, flat1]; try (intros; simp [valsB, valB, flat1]); try decide))
      refine aw_p1 (
        .a 2 9 <| .nil _ _) ?_
      refine then_normal ?_
      refine al_w [(4, .slice none 0 0), (5, .slice (some ⟨4, 0, none⟩) qs.length 0), (14, .slice (some ⟨8, 0, none⟩) 1 0), (120, .slice (some ⟨5, 0, none⟩) es.length 0), (121, .int .i64 ((es.length : Nat) : Int)), (122, .int .i64 ((1 : Nat) : Int))] [(0, ⟨(ps.flatMap ptc), 29, false, 2⟩), (4, ⟨(qs.flatMap ptc), 29, true, 2⟩), (5, ⟨((Sp.nI es).map i64v), 3, true, 1⟩), (8, ⟨(((es.take 1).map (Sp.ptA qs)).flatMap ptc), 29, true, 2⟩)] ?_ (hc := (by simp [closedB, valsB, valB, List.all_eq_true, List.mem_flatMap, List.mem_range, List.mem_map, i64v, ptc, i64v, flat1]; try (intros; simp [valsB, valB, flat1]); try decide))
      refine al_ind (fun i : Nat => (fun (i : Nat) => mkSt 1 [(4, .slice none 0 0), (5, .slice (some ⟨4, 0, none⟩) qs.length 0), (14, .slice (some ⟨8, 0, none⟩) i 0), (120, .slice (some ⟨5, 0, none⟩) es.length 0), (121, .int .i64 ((es.length : Nat) : Int)), (122, .int .i64 ((i : Nat) : Int))] [(0, ⟨(ps.flatMap ptc), 29, false, 2⟩), (4, ⟨(qs.flatMap ptc), 29, true, 2⟩), (5, ⟨((Sp.nI es).map i64v), 3, true, 1⟩), (8, ⟨(((es.take i).map (Sp.ptA qs)).flatMap ptc), 29, true, 2⟩)]) i) (fun i : Nat => (fun (i : Nat) => (1 ≤ i ∧ i ≤ es.length)) i) (fun i : Nat => (fun (i : Nat) => es.length - i) i) (fun i hi4 ih4 => ?_) 1 (show (1 ≤ 1 ∧ 1 ≤ es.length) from by omega)
      obtain ⟨i, hv4⟩ : ∃ z, z = i := ⟨i, rfl⟩; subst hv4
      have hi4' : (1 ≤ i ∧ i ≤ es.length) := hi4
      have hi : 1 ≤ i ∧ i ≤ es.length := hi4'
      show AL _ _ _ (mkSt 1 [(4, .slice none 0 0), (5, .slice (some ⟨4, 0, none⟩) qs.length 0), (14, .slice (some ⟨8, 0, none⟩) i 0), (120, .slice (some ⟨5, 0, none⟩) es.length 0), (121, .int .i64 ((es.length : Nat) : Int)), (122, .int .i64 ((i : Nat) : Int))] [(0, ⟨(ps.flatMap ptc), 29, false, 2⟩), (4, ⟨(qs.flatMap ptc), 29, true, 2⟩), (5, ⟨((Sp.nI es).map i64v), 3, true, 1⟩), (8, ⟨(((es.take i).map (Sp.ptA qs)).flatMap ptc), 29, true, 2⟩)]) _
      refine al_round ?_
      refine aw_p 32751 (
        .a 1 9 <| .nil _ _) ?_
      refine aw_sq 65502 65503 ?_
      refine aw_cd 131004 131005 (decide (((i : Nat) : Int) < ((es.length : Nat) : Int))) (fun h8 => ?_) (fun h8 => ?_)
      · have h8p : ((((i : Nat) : Int) < ((es.length : Nat) : Int))) := by first | (simpa using h8) | (have h8q := h8; simp at h8q; omega) | (have h8q := bx1 h8; simp at h8q; omega)
        have hil : i < es.length := by omega
        have hei : es.getD i 0 < qs.length := (by have k := Sp.ends_lt h3 hJ (i := i) (by rw [hes]; exact hil); rw [hes] at k; exact k)
        refine aw_sk ?_
        refine then_normal ?_
        refine aw_sq 131006 131007 ?_
        refine aw_bl 7 262013 ?_
        refine aw_p 524027 (
          .p (does_indexSlice (t := 22) (x := .tmp 120) (y := .tmp 122) (k := 5) (off := 0) (n := es.length) (c := 0) (z := 1) (kd := .i64) (j := ((i : Nat) : Int)) (by kernel_rfl) (by kernel_rfl) (by kernel_rfl) (by kernel_rfl) (by kernel_rfl) (by omega) (by omega)) <|
          .p (does_int (n' := ((es.getD i 0 : Nat) : Int)) (does_load (t := 3) (x := .tmp 124) (k := 5) (off := (0 + (((i : Nat) : Int)).toNat * 1)) (b := ⟨((Sp.nI es).map i64v), 3, true, 1⟩) (v := .int .i64 ((Sp.nI es).getD i 0)) (by kernel_rfl) (by kernel_rfl) (by kernel_rfl) (by rw [show (0 + (((i : Nat) : Int)).toNat * 1) = i from (by omega)]; exact ldV_map (f := i64v) (j := i) 0 (by kernel_rfl) (by kernel_rfl) (by omega))) ((Sp.nI_get hil))) <|
          .a 1 9 <| .nil _ _) ?_
        refine aw_p1 (
          .a 3 9 <| .p (does_indexSlice (t := 24) (x := .tmp 127) (y := .tmp 128) (k := 4) (off := 0) (n := qs.length) (c := 0) (z := 2) (kd := .i64) (j := ((es.getD i 0 : Nat) : Int)) (by kernel_rfl) (by kernel_rfl) (by kernel_rfl) (by kernel_rfl) (by kernel_rfl) (by omega) (by omega)) <|
          .p (does_load (t := 29) (x := .tmp 129) (k := 4) (off := (0 + (((es.getD i 0 : Nat) : Int)).toNat * 2)) (b := ⟨(qs.flatMap ptc), 29, true, 2⟩) (v := .agg #[.int .i64 ((qs.getD (es.getD i 0) (0, 0)).1), .int .i64 ((qs.getD (es.getD i 0) (0, 0)).2)]) (by kernel_rfl) (by kernel_rfl) (by kernel_rfl) (ldV_pair (j := (es.getD i 0)) (by kernel_rfl) (by kernel_rfl) (by omega) (by omega))) <|
          .a 1 9 <|
          .p (does_apy 10 29 2 16 8 i 9 1 ⟨(((es.take i).map (Sp.ptA qs)).flatMap ptc), 29, true, 2⟩ ⟨[.int .i64 ((qs.getD (es.getD i 0) (0, 0)).1), .int .i64 ((qs.getD (es.getD i 0) (0, 0)).2)], 29, true, 2⟩ (((es.take (i + 1)).map (Sp.ptA qs)).flatMap ptc) (by kernel_rfl) (by kernel_rfl) (by kernel_rfl) (by kernel_rfl) (by kernel_rfl) (by show ((((es.take i).map (Sp.ptA qs)).flatMap ptc)).length = _; rw [pairs_length]; simp; omega) (by omega) (by omega) (by rw [Sp.at_snoc hil]; simp [ptc])) <|
          .a 1 11 <| .nil _ _) ?_
        refine block_normal ?_
        refine then_normal ?_
        refine aw_p1 (
          .p (does_i (((i : Nat) : Int) + 1) (wrap_i64 (by omega) (by omega)) .i64) <| .a 1 11 <| .nil _ _) ?_
        refine then_normal ?_
        refine al_r [(8, 10)] [(4, .slice none 0 0), (5, .slice (some ⟨4, 0, none⟩) qs.length 0), (14, .slice (some ⟨10, 0, none⟩) (i + 1) 0), (120, .slice (some ⟨5, 0, none⟩) es.length 0), (121, .int .i64 ((es.length : Nat) : Int)), (122, .int .i64 (((i + 1) : Nat) : Int))] [(0, ⟨(ps.flatMap ptc), 29, false, 2⟩), (4, ⟨(qs.flatMap ptc), 29, true, 2⟩), (5, ⟨((Sp.nI es).map i64v), 3, true, 1⟩), (10, ⟨(((es.take (i + 1)).map (Sp.ptA qs)).flatMap ptc), 29, true, 2⟩)] [(4, .slice none 0 0), (5, .slice (some ⟨4, 0, none⟩) qs.length 0), (14, .slice (some ⟨8, 0, none⟩) (i + 1) 0), (120, .slice (some ⟨5, 0, none⟩) es.length 0), (121, .int .i64 ((es.length : Nat) : Int)), (122, .int .i64 (((i + 1) : Nat) : Int))] [(0, ⟨(ps.flatMap ptc), 29, false, 2⟩), (4, ⟨(qs.flatMap ptc), 29, true, 2⟩), (5, ⟨((Sp.nI es).map i64v), 3, true, 1⟩), (8, ⟨(((es.take (i + 1)).map (Sp.ptA qs)).flatMap ptc), 29, true, 2⟩)] ?_ ⟨rfl, (.flatB (by kernel_rfl)), rfl, (.slice _ _ _ _ _ rfl), rfl, (.slice _ _ _ _ _ rfl), rfl, (.slice _ _ _ _ _ rfl), rfl, (.flatB (by kernel_rfl)), rfl, (.flatB (by kernel_rfl)), trivial⟩ ⟨rfl, ⟨rfl, rfl, rfl, (.flats (flats_pair _))⟩, rfl, ⟨rfl, rfl, rfl, (.flats (flats_pair _))⟩, rfl, ⟨rfl, rfl, rfl, (.flats (flats_map (fun _ => rfl) _))⟩, rfl, ⟨rfl, rfl, rfl, (.flats (flats_pair _))⟩, trivial⟩
        exact ih4 (i + 1) (show (1 ≤ (i + 1) ∧ (i + 1) ≤ es.length) from by omega) (show es.length - (i + 1) < es.length - i from by omega)
      · have h8p : ¬ ((((i : Nat) : Int) < ((es.length : Nat) : Int))) := by first | (simpa using h8) | (have h8q := h8; simp at h8q; omega) | (have h8q := bx2 h8; simp at h8q; omega)
        have hin : i = es.length := by omega
        refine aw_ex 6 ?_
        refine then_exit ?_
        refine then_exit ?_
        refine block_exit ?_
        refine then_normal ?_
        refine aw_w [(4, .slice none 0 0), (14, .slice (some ⟨8, 0, none⟩) ys.length 0)] [(0, ⟨(ps.flatMap ptc), 29, false, 2⟩), (8, ⟨(ys.flatMap ptc), 29, true, 2⟩)] ?_ (by (try (first | rw [show ys.length = i from (by omega)] | rw [show ys = (es.take i).map (Sp.ptA qs) from (by rw [hin, List.take_length, hy])])); kernel_rfl) (by (try (first | rw [show ys.length = i from (by omega)] | rw [show ys = (es.take i).map (Sp.ptA qs) from (by rw [hin, List.take_length, hy])])); kernel_rfl) (hc := (by simp [closedB, valsB, valB, List.all_eq_true, List.mem_flatMap, List.mem_range, List.mem_map, i64v, ptc, i64v, flat1]; try (intros; simp [valsB, valB, flat1]); try decide))
        refine aw_p 4095 (
          .a 2 9 <| .nil _ _) ?_
        refine aw_r [(1, 8)] [(4, .slice (some ⟨8, 0, none⟩) ys.length 0)] [(0, ⟨(ps.flatMap ptc), 29, false, 2⟩), (8, ⟨(ys.flatMap ptc), 29, true, 2⟩)] [(4, .slice (some ⟨1, 0, none⟩) ys.length 0)] [(0, ⟨(ps.flatMap ptc), 29, false, 2⟩), (1, ⟨(ys.flatMap ptc), 29, true, 2⟩)] ?_ ⟨rfl, (.slice _ _ _ _ _ rfl), trivial⟩ ⟨rfl, ⟨rfl, rfl, rfl, (.flats (flats_pair _))⟩, rfl, ⟨rfl, rfl, rfl, (.flats (flats_pair _))⟩, trivial⟩
        refine aw_rt ?_
        exact en_ret [.slice (some ⟨1, 0, none⟩) ys.length 0] (by kernel_rfl)

theorem rlines_ok (ps qs ys : List (Int × Int)) (hq : ps.map Sp.lmP = qs) (h1 : 1 ≤ ps.length) (hz : ps.length ≤ 8796093021952) (tol : Int) (tl : -9223372036854775808 ≤ tol) (tu : tol ≤ 9223372036854775807) (h : Sp.Lined tol qs ys) : AC Try.prog 28 1 [.slice (some ⟨0, 0, none⟩) ps.length 0, .int .i64 tol] [(0, ⟨(ps.flatMap ptc), 29, false, 2⟩)] (.slice (some ⟨1, 0, none⟩) ys.length 0) [(1, ⟨(ys.flatMap ptc), 29, true, 2⟩)] := by
  rcases h with ⟨h, rfl⟩ | ⟨h, J, hJ, e⟩
  · exact rlines_short ps _ hq ⟨h1, h⟩ hz tol tl tu
  · exact rlines_long ps qs ys hq h J _ hz tol tl tu hJ rfl e.symm

end Go.Proofs.Ytadifmimefmcnaa.Am
