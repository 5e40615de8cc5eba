/-
  The walk of a list in the other direction.
-/
import Derived.Test.YtadifmimefmcnaaProg
import Derived.Test.YtadifmimefmcnaaAm16
import Derived.Test.YtadifmimefmcnaaRg8
import Derived.Test.YtadifmimefmcnaaAm22
import Derived.Test.YtadifmimefmcnaaTh5
namespace Go.Proofs.Ytadifmimefmcnaa.Am
open Go Go.Proofs
set_option maxRecDepth 100000
set_option maxHeartbeats 4000000
set_option linter.unusedVariables false
set_option linter.unusedSimpArgs false

theorem rev_ok (ps : List (Int × Int)) (hn : 1 ≤ ps.length) (hz : ps.length ≤ 8796093021952) :
    AC Try.prog 85 1 ([.slice (some ⟨0, 0, none⟩) ps.length 0]) [(0, ⟨(ps.flatMap ptc), 29, true, 2⟩)] (.tuple #[]) [(0, ⟨(ps.reverse.flatMap ptc), 29, true, 2⟩)] := by
  refine ac_in Try.func85 (fun w0 W pin => ?_)
  refine aw_p 3 (
    .a 2 1 <| .p (does_i ((ps.length - 1 : Nat) : Int) ((show (IntKind.wrap .i64 (((ps.length : Nat) : Int) - 1)) = ((ps.length - 1 : Nat) : Int) from ((wrap_i64 (by omega) (by omega)).trans (by omega)))) .i64) <| .a 2 1 <| .nil _ _) ?_
  refine aw_bl 0 7 ?_
  refine aw_w [(0, .slice (some ⟨0, 0, none⟩) ps.length 0), (2, .int .i64 0), (3, .int .i64 ((ps.length - 1 : Nat) : Int)), (4, .slice (some ⟨0, 0, none⟩) ps.length 0), (5, .int .i64 ((ps.length : Nat) : Int)), (6, .int .i64 ((ps.length - 1 : Nat) : Int))] [(0, ⟨((Sp.rvl ps 0).flatMap ptc), 29, true, 2⟩)] ?_ (by kernel_rfl) (by rw [Sp.rvl_0]; kernel_rfl) (hc := (by simp [closedB, valsB, valB, List.all_eq_true, List.mem_flatMap, List.mem_range, List.mem_map, i64v, ptc, flat1]; try (intros; simp [valsB, valB, flat1]); try decide))
  refine aw_lp 15 ?_
  refine al_w [(0, .slice (some ⟨0, 0, none⟩) ps.length 0), (2, .int .i64 ((0 : Nat) : Int)), (3, .int .i64 (((ps.length - 1) : Nat) : Int))] [(0, ⟨((Sp.rvl ps 0).flatMap ptc), 29, true, 2⟩)] ?_ (hc := (by simp [closedB, valsB, valB, List.all_eq_true, List.mem_flatMap, List.mem_range, List.mem_map, i64v, ptc, flat1]; try (intros; simp [valsB, valB, flat1]); try decide))
  refine al_ind (fun i : Nat × Nat => (fun (u : Nat) (v : Nat) => mkSt 1 [(0, .slice (some ⟨0, 0, none⟩) ps.length 0), (2, .int .i64 ((u : Nat) : Int)), (3, .int .i64 ((v : Nat) : Int))] [(0, ⟨((Sp.rvl ps u).flatMap ptc), 29, true, 2⟩)]) i.1 i.2) (fun i : Nat × Nat => (fun (u : Nat) (v : Nat) => (u + v + 1 = ps.length)) i.1 i.2) (fun i : Nat × Nat => (fun (u : Nat) (v : Nat) => v - u) i.1 i.2) (fun i hi1 ih1 => ?_) (0, (ps.length - 1)) (show (0 + (ps.length - 1) + 1 = ps.length) from by omega)
  obtain ⟨u, v⟩ := i
  have hi1' : (u + v + 1 = ps.length) := hi1
  have hv : u + v + 1 = ps.length := hi1'
  show AL _ _ _ (mkSt 1 [(0, .slice (some ⟨0, 0, none⟩) ps.length 0), (2, .int .i64 ((u : Nat) : Int)), (3, .int .i64 ((v : Nat) : Int))] [(0, ⟨((Sp.rvl ps u).flatMap ptc), 29, true, 2⟩)]) _
  refine al_round ?_
  refine aw_sq 30 31 ?_
  refine aw_p 61 (
    .a 3 1 <| .nil _ _) ?_
  refine aw_cd 122 123 (decide (((u : Nat) : Int) < ((v : Nat) : Int))) (fun h1 => ?_) (fun h1 => ?_)
  · have h1p : ((((u : Nat) : Int) < ((v : Nat) : Int))) := by first | (simpa using h1) | (have h1q := h1; simp at h1q; omega) | (have h1q := bx1 h1; simp at h1q; omega)
    have hlt : u < v := by omega
    refine aw_sk ?_
    refine then_normal ?_
    refine aw_sq 62 63 ?_
    refine aw_bl 1 125 ?_
    refine aw_d1 (
      .a 6 1 <| .p (does_indexSlice (t := 24) (x := .tmp 18) (y := .tmp 19) (k := 0) (off := 0) (n := ps.length) (c := 0) (z := 2) (kd := .i64) (j := ((v : Nat) : Int)) (by kernel_rfl) (by kernel_rfl) (by kernel_rfl) (by kernel_rfl) (by kernel_rfl) (by omega) (by omega)) <|
      .p (does_load (t := 29) (x := .tmp 20) (k := 0) (off := (0 + (((v : Nat) : Int)).toNat * 2)) (b := ⟨((Sp.rvl ps u).flatMap ptc), 29, true, 2⟩) (v := .agg #[.int .i64 (((Sp.rvl ps u).getD v (0, 0)).1), .int .i64 (((Sp.rvl ps u).getD v (0, 0)).2)]) (by kernel_rfl) (by kernel_rfl) (by kernel_rfl) (ldV_pair (j := v) (by kernel_rfl) (by kernel_rfl) (by omega) (by first | omega | (simp only [Sp.rvl_len, List.length_set]; omega)))) <|
      .a 2 1 <| .p (does_indexSlice (t := 24) (x := .tmp 22) (y := .tmp 23) (k := 0) (off := 0) (n := ps.length) (c := 0) (z := 2) (kd := .i64) (j := ((u : Nat) : Int)) (by kernel_rfl) (by kernel_rfl) (by kernel_rfl) (by kernel_rfl) (by kernel_rfl) (by omega) (by omega)) <|
      .p (does_load (t := 29) (x := .tmp 24) (k := 0) (off := (0 + (((u : Nat) : Int)).toNat * 2)) (b := ⟨((Sp.rvl ps u).flatMap ptc), 29, true, 2⟩) (v := .agg #[.int .i64 (((Sp.rvl ps u).getD u (0, 0)).1), .int .i64 (((Sp.rvl ps u).getD u (0, 0)).2)]) (by kernel_rfl) (by kernel_rfl) (by kernel_rfl) (ldV_pair (j := u) (by kernel_rfl) (by kernel_rfl) (by omega) (by first | omega | (simp only [Sp.rvl_len, List.length_set]; omega)))) <|
      .p (does_indexSlice (t := 24) (x := .tmp 14) (y := .tmp 15) (k := 0) (off := 0) (n := ps.length) (c := 0) (z := 2) (kd := .i64) (j := ((u : Nat) : Int)) (by kernel_rfl) (by kernel_rfl) (by kernel_rfl) (by kernel_rfl) (by kernel_rfl) (by omega) (by omega)) <|
      .p (does_store (t := 29) (x := .tmp 26) (y := .tmp 21) (k := 0) (off := (0 + (((u : Nat) : Int)).toNat * 2)) (b := ⟨((Sp.rvl ps u).flatMap ptc), 29, true, 2⟩) (v := .agg #[.int .i64 (((Sp.rvl ps u).getD v (0, 0)).1), .int .i64 (((Sp.rvl ps u).getD v (0, 0)).2)]) (cells := (((Sp.rvl ps u).set u ((((Sp.rvl ps u).getD v (0, 0)).1), (((Sp.rvl ps u).getD v (0, 0)).2))).flatMap ptc)) (by kernel_rfl) (by kernel_rfl) (by kernel_rfl) (by kernel_rfl) (by kernel_rfl) (by kernel_rfl) (by kernel_rfl) (Nat.ble_eq_true_of_le (by show _ + 2 ≤ ((Sp.rvl ps u).flatMap ptc).length; rw [pairs_length]; first | omega | (simp only [Sp.rvl_len, List.length_set]; omega))) (set_pair (j := u) (by omega) (by first | omega | (simp only [Sp.rvl_len, List.length_set]; omega)))) <|
      .p (does_indexSlice (t := 24) (x := .tmp 16) (y := .tmp 17) (k := 0) (off := 0) (n := ps.length) (c := 0) (z := 2) (kd := .i64) (j := ((v : Nat) : Int)) (by kernel_rfl) (by kernel_rfl) (by kernel_rfl) (by kernel_rfl) (by kernel_rfl) (by omega) (by omega)) <|
      .p (does_store (t := 29) (x := .tmp 27) (y := .tmp 25) (k := 0) (off := (0 + (((v : Nat) : Int)).toNat * 2)) (b := ⟨(((Sp.rvl ps u).set u ((((Sp.rvl ps u).getD v (0, 0)).1), (((Sp.rvl ps u).getD v (0, 0)).2))).flatMap ptc), 29, true, 2⟩) (v := .agg #[.int .i64 (((Sp.rvl ps u).getD u (0, 0)).1), .int .i64 (((Sp.rvl ps u).getD u (0, 0)).2)]) (cells := ((((Sp.rvl ps u).set u ((((Sp.rvl ps u).getD v (0, 0)).1), (((Sp.rvl ps u).getD v (0, 0)).2))).set v ((((Sp.rvl ps u).getD u (0, 0)).1), (((Sp.rvl ps u).getD u (0, 0)).2))).flatMap ptc)) (by kernel_rfl) (by kernel_rfl) (by kernel_rfl) (by kernel_rfl) (by kernel_rfl) (by kernel_rfl) (by kernel_rfl) (Nat.ble_eq_true_of_le (by show _ + 2 ≤ (((Sp.rvl ps u).set u ((((Sp.rvl ps u).getD v (0, 0)).1), (((Sp.rvl ps u).getD v (0, 0)).2))).flatMap ptc).length; rw [pairs_length]; first | omega | (simp only [Sp.rvl_len, List.length_set]; omega))) (set_pair (j := v) (by omega) (by first | omega | (simp only [Sp.rvl_len, List.length_set]; omega)))) <| .nil _ _) ?_
    refine block_normal ?_
    refine then_normal ?_
    refine aw_w [(0, .slice (some ⟨0, 0, none⟩) ps.length 0), (2, .int .i64 ((u : Nat) : Int)), (3, .int .i64 ((v : Nat) : Int)), (7, .int .i64 ((u : Nat) : Int)), (8, .int .i64 ((v : Nat) : Int)), (9, .bool (decide (((u : Nat) : Int) < ((v : Nat) : Int)))), (14, .slice (some ⟨0, 0, none⟩) ps.length 0), (15, .int .i64 ((u : Nat) : Int)), (16, .slice (some ⟨0, 0, none⟩) ps.length 0), (17, .int .i64 ((v : Nat) : Int)), (18, .slice (some ⟨0, 0, none⟩) ps.length 0), (19, .int .i64 ((v : Nat) : Int)), (20, .pointer (some ⟨0, 0 + (((v : Nat) : Int)).toNat * 2, none⟩)), (21, .agg #[.int .i64 (((Sp.rvl ps u).getD v (0, 0)).1), .int .i64 (((Sp.rvl ps u).getD v (0, 0)).2)]), (22, .slice (some ⟨0, 0, none⟩) ps.length 0), (23, .int .i64 ((u : Nat) : Int)), (24, .pointer (some ⟨0, 0 + (((u : Nat) : Int)).toNat * 2, none⟩)), (25, .agg #[.int .i64 (((Sp.rvl ps u).getD u (0, 0)).1), .int .i64 (((Sp.rvl ps u).getD u (0, 0)).2)]), (26, .pointer (some ⟨0, 0 + (((u : Nat) : Int)).toNat * 2, none⟩)), (27, .pointer (some ⟨0, 0 + (((v : Nat) : Int)).toNat * 2, none⟩))] [(0, ⟨((Sp.rvl ps (u + 1)).flatMap ptc), 29, true, 2⟩)] ?_ (by kernel_rfl) (by rw [← Sp.rvl_next hv hlt]; kernel_rfl) (hc := (by simp [closedB, valsB, valB, List.all_eq_true, List.mem_flatMap, List.mem_range, List.mem_map, i64v, ptc, flat1]; try (intros; simp [valsB, valB, flat1]); try decide))
    refine aw_p1 (
      .a 1 1 <| .p (does_i (((u : Nat) : Int) + 1) (wrap_i64 (by omega) (by omega)) .i64) <| .a 1 1 <| .p (does_i ((v - 1 : Nat) : Int) ((show (IntKind.wrap .i64 (((v : Nat) : Int) - 1)) = ((v - 1 : Nat) : Int) from ((wrap_i64 (by omega) (by omega)).trans (by omega)))) .i64) <| .a 2 1 <| .nil _ _) ?_
    refine then_normal ?_
    refine al_w [(0, .slice (some ⟨0, 0, none⟩) ps.length 0), (2, .int .i64 (((u + 1) : Nat) : Int)), (3, .int .i64 (((v - 1) : Nat) : Int))] [(0, ⟨((Sp.rvl ps (u + 1)).flatMap ptc), 29, true, 2⟩)] ?_ (hc := (by simp [closedB, valsB, valB, List.all_eq_true, List.mem_flatMap, List.mem_range, List.mem_map, i64v, ptc, flat1]; try (intros; simp [valsB, valB, flat1]); try decide))
    exact ih1 ((u + 1), (v - 1)) (show ((u + 1) + (v - 1) + 1 = ps.length) from by omega) (show (v - 1) - (u + 1) < v - u from by omega)
  · have h1p : ¬ ((((u : Nat) : Int) < ((v : Nat) : Int))) := by first | (simpa using h1) | (have h1q := h1; simp at h1q; omega) | (have h1q := bx2 h1; simp at h1q; omega)
    have hge : ¬ u < v := by omega
    refine aw_w [(0, .slice (some ⟨0, 0, none⟩) ps.length 0), (2, .int .i64 ((u : Nat) : Int)), (3, .int .i64 ((v : Nat) : Int)), (7, .int .i64 ((u : Nat) : Int)), (8, .int .i64 ((v : Nat) : Int)), (9, .bool (decide (((u : Nat) : Int) < ((v : Nat) : Int))))] [(0, ⟨(ps.reverse.flatMap ptc), 29, true, 2⟩)] ?_ (by kernel_rfl) (by rw [← Sp.rvl_end hv hge]; kernel_rfl) (hc := (by simp [closedB, valsB, valB, List.all_eq_true, List.mem_flatMap, List.mem_range, List.mem_map, i64v, ptc, flat1]; try (intros; simp [valsB, valB, flat1]); try decide))
    refine aw_ex 0 ?_
    refine then_exit ?_
    refine then_exit ?_
    refine block_exit ?_
    exact en_normal [] (by kernel_rfl)


end Go.Proofs.Ytadifmimefmcnaa.Am
