/-
  The walk of a list without repetitions.
-/
import Derived.Test.YtadifmimefmcnaaProg
import Derived.Test.YtadifmimefmcnaaAm16
import Derived.Test.YtadifmimefmcnaaPt1
import Derived.Test.YtadifmimefmcnaaAm25
import Derived.Test.YtadifmimefmcnaaHu5
namespace Go.Proofs.Ytadifmimefmcnaa.Am
open Go Go.Proofs
set_option maxRecDepth 100000
set_option maxHeartbeats 4000000
set_option linter.unusedVariables false
set_option linter.unusedSimpArgs false

theorem compact_short (ps : List (Int × Int)) (hz : ps.length ≤ 8796093021952) (h2 : ps.length < 2) :
    AC Try.prog 83 1 ([.slice (some ⟨0, 0, none⟩) ps.length 0]) [(0, ⟨(ps.flatMap ptc), 29, true, 2⟩)] (.slice (some ⟨0, 0, none⟩) ((Sp.ddp ps).length) 0) [(0, ⟨((Sp.ddp ps).flatMap ptc), 29, true, 2⟩)] := by
  have hdd := Sp.cmp_short h2
  refine ac_in Try.func83 (fun w0 W pin => ?_)
  refine aw_p 3 (
    .a 1 1 <| .nil _ _) ?_
  refine aw_sq 6 7 ?_
  refine aw_p 13 (
    .a 2 1 <| .p (does_b true ((show (decide (((ps.length : Nat) : Int) < 2)) = true from decide_eq_true (by omega)))) <| .nil _ _) ?_
  refine aw_tr 26 ?_
  refine aw_p 53 (
    .a 2 1 <| .nil _ _) ?_
  refine aw_w [(2, .slice (some ⟨0, 0, none⟩) ((Sp.ddp ps).length) 0)] [(0, ⟨((Sp.ddp ps).flatMap ptc), 29, true, 2⟩)] ?_ (by (try rw [hdd]); kernel_rfl) (by (try rw [hdd]); kernel_rfl) (hc := (by simp [closedB, valsB, valB, List.all_eq_true, List.mem_flatMap, List.mem_range, List.mem_map, i64v, ptc, flat1]; try (intros; simp [valsB, valB, flat1]); try decide))
  refine aw_rt ?_
  refine then_ret ?_
  exact en_ret [.slice (some ⟨0, 0, none⟩) ((Sp.ddp ps).length) 0] (by kernel_rfl)

theorem compact_long (ps : List (Int × Int)) (hz : ps.length ≤ 8796093021952) (h2 : 2 ≤ ps.length) :
    AC Try.prog 83 1 ([.slice (some ⟨0, 0, none⟩) ps.length 0]) [(0, ⟨(ps.flatMap ptc), 29, true, 2⟩)] (.slice (some ⟨0, 0, none⟩) ((Sp.ddp ps).length) 0) [(0, ⟨((Sp.ddp ps).flatMap ptc), 29, true, 2⟩)] := by
  have hone := Sp.cmp_one ps
  refine ac_in Try.func83 (fun w0 W pin => ?_)
  refine aw_p 3 (
    .a 1 1 <| .nil _ _) ?_
  refine aw_sq 6 7 ?_
  refine aw_p 13 (
    .a 2 1 <| .p (does_b false ((show (decide (((ps.length : Nat) : Int) < 2)) = false from decide_eq_false (by omega)))) <| .nil _ _) ?_
  refine aw_fl 27 ?_
  refine aw_sk ?_
  refine then_normal ?_
  refine aw_sq 14 15 ?_
  refine aw_p 29 (
    .a 1 1 <| .nil _ _) ?_
  refine aw_bl 0 59 ?_
  refine aw_lp 119 ?_
  refine al_w [(0, .slice (some ⟨0, 0, none⟩) ps.length 0), (2, .slice none 0 0), (3, .int .i64 ((1 : Nat) : Int))] [(0, ⟨(ps.flatMap ptc), 29, true, 2⟩)] ?_ (hc := (by simp [closedB, valsB, valB, List.all_eq_true, List.mem_flatMap, List.mem_range, List.mem_map, i64v, ptc, flat1]; try (intros; simp [valsB, valB, flat1]); try decide))
  refine al_ind (fun i : Nat => (fun (k : Nat) => mkSt 1 [(0, .slice (some ⟨0, 0, none⟩) ps.length 0), (2, .slice none 0 0), (3, .int .i64 ((k : Nat) : Int))] [(0, ⟨(ps.flatMap ptc), 29, true, 2⟩)]) i) (fun i : Nat => (fun (k : Nat) => (1 ≤ k ∧ k ≤ ps.length) ∧ (Sp.ddp (ps.take k) = ps.take k)) i) (fun i : Nat => (fun (k : Nat) => ps.length - k) i) (fun i hi1 ih1 => ?_) 1 (show (1 ≤ 1 ∧ 1 ≤ ps.length) ∧ (Sp.ddp (ps.take 1) = ps.take 1) from ⟨by omega, by exact hone⟩)
  obtain ⟨k, hv1⟩ : ∃ z, z = i := ⟨i, rfl⟩; subst hv1
  have hi1' : (1 ≤ k ∧ k ≤ ps.length) ∧ (Sp.ddp (ps.take k) = ps.take k) := hi1
  obtain ⟨hk, hi⟩ := hi1'
  show AL _ _ _ (mkSt 1 [(0, .slice (some ⟨0, 0, none⟩) ps.length 0), (2, .slice none 0 0), (3, .int .i64 ((k : Nat) : Int))] [(0, ⟨(ps.flatMap ptc), 29, true, 2⟩)]) _
  refine al_round ?_
  refine aw_sq 238 239 ?_
  refine aw_p 477 (
    .a 4 1 <| .nil _ _) ?_
  refine aw_cd 954 955 (decide (((k : Nat) : Int) < ((ps.length : Nat) : Int))) (fun h1 => ?_) (fun h1 => ?_)
  · have h1p : ((((k : Nat) : Int) < ((ps.length : Nat) : Int))) := by first | (simpa using h1) | (have h1q := h1; simp at h1q; omega) | (have h1q := bx1 h1; simp at h1q; omega)
    refine aw_sk ?_
    refine then_normal ?_
    refine aw_sq 478 479 ?_
    refine aw_bl 1 957 ?_
    refine aw_d 1915 (
      .a 2 1 <| .p (does_indexSlice (t := 24) (x := .tmp 16) (y := .tmp 17) (k := 0) (off := 0) (n := ps.length) (c := 0) (z := 2) (kd := .i64) (j := ((k : Nat) : Int)) (by kernel_rfl) (by kernel_rfl) (by kernel_rfl) (by kernel_rfl) (by kernel_rfl) (by omega) (by omega)) <|
      .p (does_load (t := 29) (x := .tmp 18) (k := 0) (off := (0 + (((k : Nat) : Int)).toNat * 2)) (b := ⟨(ps.flatMap ptc), 29, true, 2⟩) (v := .agg #[.int .i64 ((ps.getD k (0, 0)).1), .int .i64 ((ps.getD k (0, 0)).2)]) (by kernel_rfl) (by kernel_rfl) (by kernel_rfl) (ldV_pair (j := k) (by kernel_rfl) (by kernel_rfl) (by omega) (by omega))) <|
      .a 2 1 <| .p (does_i ((k - 1 : Nat) : Int) ((show (IntKind.wrap .i64 (((k : Nat) : Int) - 1)) = ((k - 1 : Nat) : Int) from ((wrap_i64 (by omega) (by omega)).trans (by omega)))) .i64) <|
      .p (does_indexSlice (t := 24) (x := .tmp 20) (y := .tmp 22) (k := 0) (off := 0) (n := ps.length) (c := 0) (z := 2) (kd := .i64) (j := ((k - 1 : Nat) : Int)) (by kernel_rfl) (by kernel_rfl) (by kernel_rfl) (by kernel_rfl) (by kernel_rfl) (by omega) (by omega)) <|
      .p (does_load (t := 29) (x := .tmp 23) (k := 0) (off := (0 + (((k - 1 : Nat) : Int)).toNat * 2)) (b := ⟨(ps.flatMap ptc), 29, true, 2⟩) (v := .agg #[.int .i64 ((ps.getD (k - 1) (0, 0)).1), .int .i64 ((ps.getD (k - 1) (0, 0)).2)]) (by kernel_rfl) (by kernel_rfl) (by kernel_rfl) (ldV_pair (j := (k - 1)) (by kernel_rfl) (by kernel_rfl) (by omega) (by omega))) <|
      .p (does_e ((((ps.getD k (0, 0)).1) == ((ps.getD (k - 1) (0, 0)).1)) && ((((ps.getD k (0, 0)).2) == ((ps.getD (k - 1) (0, 0)).2)) && true)) (rfl)) <| .nil _ _) ?_
    refine aw_cd 3830 3831 ((((ps.getD k (0, 0)).1) == ((ps.getD (k - 1) (0, 0)).1)) && ((((ps.getD k (0, 0)).2) == ((ps.getD (k - 1) (0, 0)).2)) && true)) (fun h2 => ?_) (fun h2 => ?_)
    · refine aw_p 7661 (
        .a 2 1 <|
        .p (does_val (v' := .slice (some ⟨0, (0 + k * 2), none⟩) (ps.length - k) 0) (does_slice (t := 24) (x := .tmp 26) (lo := some (.tmp 27)) (hi := none) (k := 0) (off := 0) (n := ps.length) (c := 0) (z := 2) (l := ((k : Nat) : Int)) (h := ((ps.length : Nat) : Int)) (m := (ps.length - k)) (b := ⟨(ps.flatMap ptc), 29, true, 2⟩) (by kernel_rfl) (by kernel_rfl) (by kernel_rfl) (by kernel_rfl) (by kernel_rfl) (by kernel_rfl) (by kernel_rfl) (by kernel_rfl) (by omega) (by omega) (by omega) (by omega)) (by kernel_rfl)) <|
        .a 1 1 <| .nil _ _) ?_
      refine aw_sq 15322 15323 ?_
      refine aw_p 30645 (
        .a 1 1 <| .nil _ _) ?_
      refine aw_bl 2 61291 ?_
      refine aw_lp 122583 ?_
      refine al_w [(0, .slice (some ⟨0, 0, none⟩) ps.length 0), (2, .slice none 0 0), (3, .int .i64 ((k : Nat) : Int)), (4, .slice (some ⟨0, (0 + k * 2), none⟩) (ps.length - k) 0), (5, .int .i64 ((1 : Nat) : Int))] [(0, ⟨(ps.flatMap ptc), 29, true, 2⟩)] ?_ (hc := (by simp [closedB, valsB, valB, List.all_eq_true, List.mem_flatMap, List.mem_range, List.mem_map, i64v, ptc, flat1]; try (intros; simp [valsB, valB, flat1]); try decide))
      refine al_ind (fun i : List (Int × Int) × Nat × Nat => (fun (cur : List (Int × Int)) (m : Nat) (j : Nat) => mkSt 1 [(0, .slice (some ⟨0, 0, none⟩) ps.length 0), (2, .slice none 0 0), (3, .int .i64 ((m : Nat) : Int)), (4, .slice (some ⟨0, (0 + k * 2), none⟩) (ps.length - k) 0), (5, .int .i64 ((j : Nat) : Int))] [(0, ⟨(cur.flatMap ptc), 29, true, 2⟩)]) i.1 i.2.1 i.2.2) (fun i : List (Int × Int) × Nat × Nat => (fun (cur : List (Int × Int)) (m : Nat) (j : Nat) => (Sp.Cpt ps cur m (k + j)) ∧ (1 ≤ j ∧ k + j ≤ ps.length)) i.1 i.2.1 i.2.2) (fun i : List (Int × Int) × Nat × Nat => (fun (cur : List (Int × Int)) (m : Nat) (j : Nat) => ps.length - j) i.1 i.2.1 i.2.2) (fun i hi2 ih2 => ?_) (ps, k, 1) (show (Sp.Cpt ps ps k (k + 1)) ∧ (1 ≤ 1 ∧ k + 1 ≤ ps.length) from ⟨by (exact Sp.cpt_start hk.1 (by omega) hi ((Sp.eqb_iff _ _).1 (by assumption))), by omega⟩)
      obtain ⟨cur, m, j⟩ := i
      have hi2' : (Sp.Cpt ps cur m (k + j)) ∧ (1 ≤ j ∧ k + j ≤ ps.length) := hi2
      obtain ⟨hc, hj⟩ := hi2'
      show AL _ _ _ (mkSt 1 [(0, .slice (some ⟨0, 0, none⟩) ps.length 0), (2, .slice none 0 0), (3, .int .i64 ((m : Nat) : Int)), (4, .slice (some ⟨0, (0 + k * 2), none⟩) (ps.length - k) 0), (5, .int .i64 ((j : Nat) : Int))] [(0, ⟨(cur.flatMap ptc), 29, true, 2⟩)]) _
      have hcl := hc.len; have hlt := hc.lt; have hle := hc.le
      refine al_round ?_
      refine aw_sq 245166 245167 ?_
      refine aw_p 490333 (
        .a 4 1 <| .nil _ _) ?_
      refine aw_cd 980666 980667 (decide (((j : Nat) : Int) < (((ps.length - k) : Nat) : Int))) (fun h3 => ?_) (fun h3 => ?_)
      · have h3p : ((((j : Nat) : Int) < (((ps.length - k) : Nat) : Int))) := by first | (simpa using h3) | (have h3q := h3; simp at h3q; omega) | (have h3q := bx1 h3; simp at h3q; omega)
        refine aw_sk ?_
        refine then_normal ?_
        refine aw_sq 490334 490335 ?_
        refine aw_bl 3 980669 ?_
        refine aw_d 1961339 (
          .a 2 1 <| .p (does_indexSlice (t := 24) (x := .tmp 35) (y := .tmp 36) (k := 0) (off := (0 + k * 2)) (n := (ps.length - k)) (c := 0) (z := 2) (kd := .i64) (j := ((j : Nat) : Int)) (by kernel_rfl) (by kernel_rfl) (by kernel_rfl) (by kernel_rfl) (by kernel_rfl) (by omega) (by omega)) <|
          .p (does_load (t := 29) (x := .tmp 37) (k := 0) (off := ((0 + k * 2) + (((j : Nat) : Int)).toNat * 2)) (b := ⟨(cur.flatMap ptc), 29, true, 2⟩) (v := .agg #[.int .i64 ((cur.getD (k + j) (0, 0)).1), .int .i64 ((cur.getD (k + j) (0, 0)).2)]) (by kernel_rfl) (by kernel_rfl) (by kernel_rfl) (ldV_pair (j := (k + j)) (by kernel_rfl) (by kernel_rfl) (by omega) (by omega))) <|
          .a 2 1 <| .p (does_i ((j - 1 : Nat) : Int) ((show (IntKind.wrap .i64 (((j : Nat) : Int) - 1)) = ((j - 1 : Nat) : Int) from ((wrap_i64 (by omega) (by omega)).trans (by omega)))) .i64) <|
          .p (does_indexSlice (t := 24) (x := .tmp 39) (y := .tmp 41) (k := 0) (off := (0 + k * 2)) (n := (ps.length - k)) (c := 0) (z := 2) (kd := .i64) (j := ((j - 1 : Nat) : Int)) (by kernel_rfl) (by kernel_rfl) (by kernel_rfl) (by kernel_rfl) (by kernel_rfl) (by omega) (by omega)) <|
          .p (does_load (t := 29) (x := .tmp 42) (k := 0) (off := ((0 + k * 2) + (((j - 1 : Nat) : Int)).toNat * 2)) (b := ⟨(cur.flatMap ptc), 29, true, 2⟩) (v := .agg #[.int .i64 ((cur.getD (k + (j - 1)) (0, 0)).1), .int .i64 ((cur.getD (k + (j - 1)) (0, 0)).2)]) (by kernel_rfl) (by kernel_rfl) (by kernel_rfl) (ldV_pair (j := (k + (j - 1))) (by kernel_rfl) (by kernel_rfl) (by omega) (by omega))) <|
          .p (does_e (!((((cur.getD (k + j) (0, 0)).1) == ((cur.getD (k + (j - 1)) (0, 0)).1)) && ((((cur.getD (k + j) (0, 0)).2) == ((cur.getD (k + (j - 1)) (0, 0)).2)) && true))) (rfl)) <| .nil _ _) ?_
        refine aw_cd 3922678 3922679 (!((((cur.getD (k + j) (0, 0)).1) == ((cur.getD (k + (j - 1)) (0, 0)).1)) && ((((cur.getD (k + j) (0, 0)).2) == ((cur.getD (k + (j - 1)) (0, 0)).2)) && true))) (fun h4 => ?_) (fun h4 => ?_)
        · refine aw_p 7845357 (
            .a 4 1 <| .p (does_indexSlice (t := 24) (x := .tmp 47) (y := .tmp 48) (k := 0) (off := (0 + k * 2)) (n := (ps.length - k)) (c := 0) (z := 2) (kd := .i64) (j := ((j : Nat) : Int)) (by kernel_rfl) (by kernel_rfl) (by kernel_rfl) (by kernel_rfl) (by kernel_rfl) (by omega) (by omega)) <|
            .p (does_load (t := 29) (x := .tmp 49) (k := 0) (off := ((0 + k * 2) + (((j : Nat) : Int)).toNat * 2)) (b := ⟨(cur.flatMap ptc), 29, true, 2⟩) (v := .agg #[.int .i64 ((cur.getD (k + j) (0, 0)).1), .int .i64 ((cur.getD (k + j) (0, 0)).2)]) (by kernel_rfl) (by kernel_rfl) (by kernel_rfl) (ldV_pair (j := (k + j)) (by kernel_rfl) (by kernel_rfl) (by omega) (by omega))) <|
            .p (does_indexSlice (t := 24) (x := .tmp 45) (y := .tmp 46) (k := 0) (off := 0) (n := ps.length) (c := 0) (z := 2) (kd := .i64) (j := ((m : Nat) : Int)) (by kernel_rfl) (by kernel_rfl) (by kernel_rfl) (by kernel_rfl) (by kernel_rfl) (by omega) (by omega)) <|
            .p (does_store (t := 29) (x := .tmp 51) (y := .tmp 50) (k := 0) (off := (0 + (((m : Nat) : Int)).toNat * 2)) (b := ⟨(cur.flatMap ptc), 29, true, 2⟩) (v := .agg #[.int .i64 ((cur.getD (k + j) (0, 0)).1), .int .i64 ((cur.getD (k + j) (0, 0)).2)]) (cells := ((cur.set m (((cur.getD (k + j) (0, 0)).1), ((cur.getD (k + j) (0, 0)).2))).flatMap ptc)) (by kernel_rfl) (by kernel_rfl) (by kernel_rfl) (by kernel_rfl) (by kernel_rfl) (by kernel_rfl) (by kernel_rfl) (Nat.ble_eq_true_of_le (by show _ + 2 ≤ (cur.flatMap ptc).length; rw [pairs_length]; omega)) (set_pair (j := m) (by omega) (by omega))) <| .nil _ _) ?_
          refine aw_p1 (
            .a 1 1 <| .p (does_i (((m : Nat) : Int) + 1) (wrap_i64 (by omega) (by omega)) .i64) <| .a 1 1 <| .nil _ _) ?_
          refine block_normal ?_
          refine then_normal ?_
          refine aw_p1 (
            .a 1 1 <| .p (does_i (((j : Nat) : Int) + 1) (wrap_i64 (by omega) (by omega)) .i64) <| .a 1 1 <| .nil _ _) ?_
          refine then_normal ?_
          refine al_w [(0, .slice (some ⟨0, 0, none⟩) ps.length 0), (2, .slice none 0 0), (3, .int .i64 (((m + 1) : Nat) : Int)), (4, .slice (some ⟨0, (0 + k * 2), none⟩) (ps.length - k) 0), (5, .int .i64 (((j + 1) : Nat) : Int))] [(0, ⟨((cur.set m (((cur.getD (k + j) (0, 0)).1), ((cur.getD (k + j) (0, 0)).2))).flatMap ptc), 29, true, 2⟩)] ?_ (hc := (by simp [closedB, valsB, valB, List.all_eq_true, List.mem_flatMap, List.mem_range, List.mem_map, i64v, ptc, flat1]; try (intros; simp [valsB, valB, flat1]); try decide))
          exact ih2 ((cur.set m (((cur.getD (k + j) (0, 0)).1), ((cur.getD (k + j) (0, 0)).2))), (m + 1), (j + 1)) (show (Sp.Cpt ps (cur.set m (((cur.getD (k + j) (0, 0)).1), ((cur.getD (k + j) (0, 0)).2))) (m + 1) (k + (j + 1))) ∧ (1 ≤ (j + 1) ∧ k + (j + 1) ≤ ps.length) from ⟨by (first | exact Sp.cpt_new2 hj.1 hc (by omega) (Sp.eqb_ne (Sp.nb_t (by assumption))) | exact Sp.cpt_same2 hj.1 hc (by omega) ((Sp.eqb_iff _ _).1 (Sp.nb_f (by assumption)))), by omega⟩) (show ps.length - (j + 1) < ps.length - j from by omega)
        · refine aw_sk ?_
          refine block_normal ?_
          refine then_normal ?_
          refine aw_p1 (
            .a 1 1 <| .p (does_i (((j : Nat) : Int) + 1) (wrap_i64 (by omega) (by omega)) .i64) <| .a 1 1 <| .nil _ _) ?_
          refine then_normal ?_
          refine al_w [(0, .slice (some ⟨0, 0, none⟩) ps.length 0), (2, .slice none 0 0), (3, .int .i64 ((m : Nat) : Int)), (4, .slice (some ⟨0, (0 + k * 2), none⟩) (ps.length - k) 0), (5, .int .i64 (((j + 1) : Nat) : Int))] [(0, ⟨(cur.flatMap ptc), 29, true, 2⟩)] ?_ (hc := (by simp [closedB, valsB, valB, List.all_eq_true, List.mem_flatMap, List.mem_range, List.mem_map, i64v, ptc, flat1]; try (intros; simp [valsB, valB, flat1]); try decide))
          exact ih2 (cur, m, (j + 1)) (show (Sp.Cpt ps cur m (k + (j + 1))) ∧ (1 ≤ (j + 1) ∧ k + (j + 1) ≤ ps.length) from ⟨by (first | exact Sp.cpt_new2 hj.1 hc (by omega) (Sp.eqb_ne (Sp.nb_t (by assumption))) | exact Sp.cpt_same2 hj.1 hc (by omega) ((Sp.eqb_iff _ _).1 (Sp.nb_f (by assumption)))), by omega⟩) (show ps.length - (j + 1) < ps.length - j from by omega)
      · have h3p : ¬ ((((j : Nat) : Int) < (((ps.length - k) : Nat) : Int))) := by first | (simpa using h3) | (have h3q := h3; simp at h3q; omega) | (have h3q := bx2 h3; simp at h3q; omega)
        obtain ⟨he, hel⟩ := Sp.cpt_end hc (by omega) (by omega)
        refine aw_ex 2 ?_
        refine then_exit ?_
        refine then_exit ?_
        refine block_exit ?_
        refine then_normal ?_
        refine aw_p 30647 (
          .a 2 1 <|
          .p (does_val (v' := .slice (some ⟨0, (0 + m * 2), none⟩) (ps.length - m) 0) (does_slice (t := 24) (x := .tmp 54) (lo := some (.tmp 55)) (hi := none) (k := 0) (off := 0) (n := ps.length) (c := 0) (z := 2) (l := ((m : Nat) : Int)) (h := ((ps.length : Nat) : Int)) (m := (ps.length - m)) (b := ⟨(cur.flatMap ptc), 29, true, 2⟩) (by kernel_rfl) (by kernel_rfl) (by kernel_rfl) (by kernel_rfl) (by kernel_rfl) (by kernel_rfl) (by kernel_rfl) (by kernel_rfl) (by omega) (by omega) (by omega) (by omega)) (by kernel_rfl)) <|
          .p (does_clear (k := 0) (off := (0 + m * 2)) (n := (ps.length - m)) (e := 29) (z := 2) (b := ⟨(cur.flatMap ptc), 29, true, 2⟩) (zv := .agg #[.int .i64 0, .int .i64 0]) ((cur.take m).flatMap ptc) (by kernel_rfl) (by kernel_rfl) rfl (by kernel_rfl) (by kernel_rfl) (by omega) (take_pairs (k := m) (by omega)) (by show _ ≤ (cur.flatMap ptc).length; rw [pairs_length]; omega)) <| .nil _ _) ?_
        refine aw_p 61295 (
          .a 2 1 <|
          .p (does_val (v' := .slice (some ⟨0, 0, none⟩) m 0) (does_slice (t := 24) (x := .tmp 57) (lo := none) (hi := some (.tmp 58)) (k := 0) (off := 0) (n := ps.length) (c := 0) (z := 2) (l := 0) (h := ((m : Nat) : Int)) (m := m) (b := ⟨((cur.take m).flatMap ptc), 29, true, 2⟩) (by kernel_rfl) (by kernel_rfl) (by kernel_rfl) (by kernel_rfl) (by kernel_rfl) (by kernel_rfl) (by kernel_rfl) (by kernel_rfl) (by omega) (by omega) (by omega) (by omega)) (by kernel_rfl)) <|
          .a 1 1 <| .nil _ _) ?_
        refine aw_w [(2, .slice (some ⟨0, 0, none⟩) ((Sp.ddp ps).length) 0)] [(0, ⟨((Sp.ddp ps).flatMap ptc), 29, true, 2⟩)] ?_ (by (try rw [hel]); kernel_rfl) (by (try rw [he]); kernel_rfl) (hc := (by simp [closedB, valsB, valB, List.all_eq_true, List.mem_flatMap, List.mem_range, List.mem_map, i64v, ptc, flat1]; try (intros; simp [valsB, valB, flat1]); try decide))
        refine aw_rt ?_
        refine block_ret ?_
        refine then_ret ?_
        refine then_ret ?_
        refine block_ret ?_
        refine then_ret ?_
        exact en_ret [.slice (some ⟨0, 0, none⟩) ((Sp.ddp ps).length) 0] (by kernel_rfl)
    · refine aw_sk ?_
      refine block_normal ?_
      refine then_normal ?_
      refine aw_p1 (
        .a 1 1 <| .p (does_i (((k : Nat) : Int) + 1) (wrap_i64 (by omega) (by omega)) .i64) <| .a 1 1 <| .nil _ _) ?_
      refine then_normal ?_
      refine al_w [(0, .slice (some ⟨0, 0, none⟩) ps.length 0), (2, .slice none 0 0), (3, .int .i64 (((k + 1) : Nat) : Int))] [(0, ⟨(ps.flatMap ptc), 29, true, 2⟩)] ?_ (hc := (by simp [closedB, valsB, valB, List.all_eq_true, List.mem_flatMap, List.mem_range, List.mem_map, i64v, ptc, flat1]; try (intros; simp [valsB, valB, flat1]); try decide))
      exact ih1 (k + 1) (show (1 ≤ (k + 1) ∧ (k + 1) ≤ ps.length) ∧ (Sp.ddp (ps.take (k + 1)) = ps.take (k + 1)) from ⟨by omega, by (exact Sp.cmp_go hk.1 (by omega) hi (Sp.eqb_ne (by assumption)))⟩) (show ps.length - (k + 1) < ps.length - k from by omega)
  · have h1p : ¬ ((((k : Nat) : Int) < ((ps.length : Nat) : Int))) := by first | (simpa using h1) | (have h1q := h1; simp at h1q; omega) | (have h1q := bx2 h1; simp at h1q; omega)
    have hkn : k = ps.length := by omega
    have hdd : Sp.ddp ps = ps := (by rw [hkn, List.take_length] at hi; exact hi)
    refine aw_ex 0 ?_
    refine then_exit ?_
    refine then_exit ?_
    refine block_exit ?_
    refine then_normal ?_
    refine aw_p 31 (
      .a 2 1 <| .nil _ _) ?_
    refine aw_w [(2, .slice (some ⟨0, 0, none⟩) ((Sp.ddp ps).length) 0)] [(0, ⟨((Sp.ddp ps).flatMap ptc), 29, true, 2⟩)] ?_ (by (try rw [hdd]); kernel_rfl) (by (try rw [hdd]); kernel_rfl) (hc := (by simp [closedB, valsB, valB, List.all_eq_true, List.mem_flatMap, List.mem_range, List.mem_map, i64v, ptc, flat1]; try (intros; simp [valsB, valB, flat1]); try decide))
    refine aw_rt ?_
    exact en_ret [.slice (some ⟨0, 0, none⟩) ((Sp.ddp ps).length) 0] (by kernel_rfl)

theorem compact_ok (ps : List (Int × Int)) (hz : ps.length ≤ 8796093021952) : AC Try.prog 83 1 [.slice (some ⟨0, 0, none⟩) ps.length 0] [(0, ⟨(ps.flatMap ptc), 29, true, 2⟩)] (.slice (some ⟨0, 0, none⟩) (Sp.ddp ps).length 0) [(0, ⟨((Sp.ddp ps).flatMap ptc), 29, true, 2⟩)] := by
  by_cases h : ps.length < 2
  · exact compact_short ps hz h
  · exact compact_long ps hz (by omega)

end Go.Proofs.Ytadifmimefmcnaa.Am
