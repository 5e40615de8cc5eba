import Derived.Test.YtomnkdlfmjdckaaProg
import Derived.Test.YtomnkdlfmjdckaaM2
import Derived.Test.YtomnkdlfmjdckaaM3
import Derived.Test.YtomnkdlfmjdckaaM7
import Derived.Test.YtomnkdlfmjdckaaM8
namespace Go.Proofs.Ytomnkdlfmjdckaa.Am
open Go Go.Proofs
set_option maxRecDepth 100000
set_option maxHeartbeats 4000000
set_option linter.unusedVariables false
set_option linter.unusedSimpArgs false
theorem compact_short (ps : List (Int × Int)) (hz : ps.length ≤ 8796093021952) (h2 : ps.length < 2) :
    AC Try.prog 33 1 ([.slice (some ⟨0, 0, none⟩) ps.length 0]) [(0, ⟨(ps.flatMap ptc), 27, true, 2⟩)] (.slice (some ⟨0, 0, none⟩) ((Sp.ddp ps).length) 0) [(0, ⟨((Sp.ddp ps).flatMap ptc), 27, true, 2⟩)] := by
  have hdd := Sp.cmp_short h2
  refine ac_in Try.func33 (fun w0 W pin => ?_)
  refine aw_p 3 (
    .a 1 1 <| .nil _ _) ?_
  refine aw_sq 6 7 ?_
  refine aw_p 13 (
    .a 2 1 <| .p (does_b true ((show (decide (((ps.length : Nat) : Int) < 2)) = true from decide_eq_true (by omega)))) <| .nil _ _) ?_
  refine aw_tr 26 ?_
  refine aw_p 53 (
    .a 2 1 <| .nil _ _) ?_
  refine aw_w [(2, .slice (some ⟨0, 0, none⟩) ((Sp.ddp ps).length) 0)] [(0, ⟨((Sp.ddp ps).flatMap ptc), 27, true, 2⟩)] ?_ (by (try rw [hdd]); kernel_rfl) (by (try rw [hdd]); kernel_rfl) (hc := (by simp [closedB, valsB, valB, List.all_eq_true, List.mem_flatMap, List.mem_range, List.mem_map, i64v, ptc, flat1]; try (intros; simp [valsB, valB, flat1]); try decide))
  refine aw_rt ?_
  refine then_ret ?_
  exact en_ret [.slice (some ⟨0, 0, none⟩) ((Sp.ddp ps).length) 0] (by kernel_rfl)
theorem compact_long (ps : List (Int × Int)) (hz : ps.length ≤ 8796093021952) (h2 : 2 ≤ ps.length) :
    AC Try.prog 33 1 ([.slice (some ⟨0, 0, none⟩) ps.length 0]) [(0, ⟨(ps.flatMap ptc), 27, true, 2⟩)] (.slice (some ⟨0, 0, none⟩) ((Sp.ddp ps).length) 0) [(0, ⟨((Sp.ddp ps).flatMap ptc), 27, true, 2⟩)] := by
  have hone := Sp.cmp_one ps
  refine ac_in Try.func33 (fun w0 W pin => ?_)
  refine aw_p 3 (
    .a 1 1 <| .nil _ _) ?_
  refine aw_sq 6 7 ?_
  refine aw_p 13 (
    .a 2 1 <| .p (does_b false ((show (decide (((ps.length : Nat) : Int) < 2)) = false from decide_eq_false (by omega)))) <| .nil _ _) ?_
  refine aw_fl 27 ?_
  refine aw_sk ?_
  refine then_normal ?_
  refine aw_sq 14 15 ?_
  refine aw_p 29 (
    .a 1 1 <| .nil _ _) ?_
  refine aw_bl 0 59 ?_
  refine aw_lp 119 ?_
  refine al_w [(0, .slice (some ⟨0, 0, none⟩) ps.length 0), (2, .slice none 0 0), (3, .int .i64 ((1 : Nat) : Int))] [(0, ⟨(ps.flatMap ptc), 27, true, 2⟩)] ?_ (hc := (by simp [closedB, valsB, valB, List.all_eq_true, List.mem_flatMap, List.mem_range, List.mem_map, i64v, ptc, flat1]; try (intros; simp [valsB, valB, flat1]); try decide))
  refine al_ind (fun i : Nat => (fun (k : Nat) => mkSt 1 [(0, .slice (some ⟨0, 0, none⟩) ps.length 0), (2, .slice none 0 0), (3, .int .i64 ((k : Nat) : Int))] [(0, ⟨(ps.flatMap ptc), 27, true, 2⟩)]) i) (fun i : Nat => (fun (k : Nat) => (1 ≤ k ∧ k ≤ ps.length) ∧ (Sp.ddp (ps.take k) = ps.take k)) i) (fun i : Nat => (fun (k : Nat) => ps.length - k) i) (fun i hi1 ih1 => ?_) 1 (show (1 ≤ 1 ∧ 1 ≤ ps.length) ∧ (Sp.ddp (ps.take 1) = ps.take 1) from ⟨by omega, by exact hone⟩)
  obtain ⟨k, hv1⟩ : ∃ z, z = i := ⟨i, rfl⟩; subst hv1
  have hi1' : (1 ≤ k ∧ k ≤ ps.length) ∧ (Sp.ddp (ps.take k) = ps.take k) := hi1
  obtain ⟨hk, hi⟩ := hi1'
  show AL _ _ _ (mkSt 1 [(0, .slice (some ⟨0, 0, none⟩) ps.length 0), (2, .slice none 0 0), (3, .int .i64 ((k : Nat) : Int))] [(0, ⟨(ps.flatMap ptc), 27, true, 2⟩)]) _
  refine al_round ?_
  refine aw_sq 238 239 ?_
  refine aw_p 477 (
    .a 4 1 <| .nil _ _) ?_
  refine aw_cd 954 955 (decide (((k : Nat) : Int) < ((ps.length : Nat) : Int))) (fun h1 => ?_) (fun h1 => ?_)
  · have h1p : ((((k : Nat) : Int) < ((ps.length : Nat) : Int))) := by first | (simpa using h1) | (have h1q := h1; simp at h1q; omega) | (have h1q := bx1 h1; simp at h1q; omega)
    refine aw_sk ?_
    refine then_normal ?_
    refine aw_sq 478 479 ?_
    refine aw_bl 1 957 ?_
    refine aw_d 1915 (
      .a 2 1 <| .p (does_indexSlice (t := 24) (x := .tmp 16) (y := .tmp 17) (k := 0) (off := 0) (n := ps.length) (c := 0) (z := 2) (kd := .i64) (j := ((k : Nat) : Int)) (by kernel_rfl) (by kernel_rfl) (by kernel_rfl) (by kernel_rfl) (by kernel_rfl) (by omega) (by omega)) <|
      .p (does_load (t := 27) (x := .tmp 18) (k := 0) (off := (0 + (((k : Nat) : Int)).toNat * 2)) (b := ⟨(ps.flatMap ptc), 27, true, 2⟩) (v := .agg #[.int .i64 ((ps.getD k (0, 0)).1), .int .i64 ((ps.getD k (0, 0)).2)]) (by kernel_rfl) (by kernel_rfl) (by kernel_rfl) (ldV_pair (j := k) (by kernel_rfl) (by kernel_rfl) (by omega) (by omega))) <|
      .a 2 1 <| .p (does_i ((k - 1 : Nat) : Int) ((show (IntKind.wrap .i64 (((k : Nat) : Int) - 1)) = ((k - 1 : Nat) : Int) from ((wrap_i64 (by omega) (by omega)).trans (by omega)))) .i64) <|
      .p (does_indexSlice (t := 24) (x := .tmp 20) (y := .tmp 22) (k := 0) (off := 0) (n := ps.length) (c := 0) (z := 2) (kd := .i64) (j := ((k - 1 : Nat) : Int)) (by kernel_rfl) (by kernel_rfl) (by kernel_rfl) (by kernel_rfl) (by kernel_rfl) (by omega) (by omega)) <|
      .p (does_load (t := 27) (x := .tmp 23) (k := 0) (off := (0 + (((k - 1 : Nat) : Int)).toNat * 2)) (b := ⟨(ps.flatMap ptc), 27, true, 2⟩) (v := .agg #[.int .i64 ((ps.getD (k - 1) (0, 0)).1), .int .i64 ((ps.getD (k - 1) (0, 0)).2)]) (by kernel_rfl) (by kernel_rfl) (by kernel_rfl) (ldV_pair (j := (k - 1)) (by kernel_rfl) (by kernel_rfl) (by omega) (by omega))) <|
      .p (does_e ((((ps.getD k (0, 0)).1) == ((ps.getD (k - 1) (0, 0)).1)) && ((((ps.getD k (0, 0)).2) == ((ps.getD (k - 1) (0, 0)).2)) && true)) (rfl)) <| .nil _ _) ?_
    refine aw_cd 3830 3831 ((((ps.getD k (0, 0)).1) == ((ps.getD (k - 1) (0, 0)).1)) && ((((ps.getD k (0, 0)).2) == ((ps.getD (k - 1) (0, 0)).2)) && true)) (fun h2 => ?_) (fun h2 => ?_)
    · refine aw_p 7661 (
        .a 2 1 <|
        .p (does_val (v' := .slice (some ⟨0, (0 + k * 2), none⟩) (ps.length - k) 0) (does_slice (t := 24) (x := .tmp 26) (lo := some (.tmp 27)) (hi := none) (k := 0) (off := 0) (n := ps.length) (c := 0) (z := 2) (l := ((k : Nat) : Int)) (h := ((ps.length : Nat) : Int)) (m := (ps.length - k)) (b := ⟨(ps.flatMap ptc), 27, true, 2⟩) (by kernel_rfl) (by kernel_rfl) (by kernel_rfl) (by kernel_rfl) (by kernel_rfl) (by kernel_rfl) (by kernel_rfl) (by kernel_rfl) (by omega) (by omega) (by omega) (by omega)) (by kernel_rfl)) <|
        .a 1 1 <| .nil _ _) ?_
      refine aw_sq 15322 15323 ?_
      refine aw_p 30645 (
        .a 1 1 <| .nil _ _) ?_
      refine aw_bl 2 61291 ?_
      refine aw_lp 122583 ?_
      refine al_w [(0, .slice (some ⟨0, 0, none⟩) ps.length 0), (2, .slice none 0 0), (3, .int .i64 ((k : Nat) : Int)), (4, .slice (some ⟨0, (0 + k * 2), none⟩) (ps.length - k) 0), (5, .int .i64 ((1 : Nat) : Int))] [(0, ⟨(ps.flatMap ptc), 27, true, 2⟩)] ?_ (hc := (by simp [closedB, valsB, valB, List.all_eq_true, List.mem_flatMap, List.mem_range, List.mem_map, i64v, ptc, flat1]; try (intros; simp [valsB, valB, flat1]); try decide))
      refine al_ind (fun i : List (Int × Int) × Nat × Nat => (fun (cur : List (Int × Int)) (m : Nat) (j : Nat) => mkSt 1 [(0, .slice (some ⟨0, 0, none⟩) ps.length 0), (2, .slice none 0 0), (3, .int .i64 ((m : Nat) : Int)), (4, .slice (some ⟨0, (0 + k * 2), none⟩) (ps.length - k) 0), (5, .int .i64 ((j : Nat) : Int))] [(0, ⟨(cur.flatMap ptc), 27, true, 2⟩)]) i.1 i.2.1 i.2.2) (fun i : List (Int × Int) × Nat × Nat => (fun (cur : List (Int × Int)) (m : Nat) (j : Nat) => (Sp.Cpt ps cur m (k + j)) ∧ (1 ≤ j ∧ k + j ≤ ps.length)) i.1 i.2.1 i.2.2) (fun i : List (Int × Int) × Nat × Nat => (fun (cur : List (Int × Int)) (m : Nat) (j : Nat) => ps.length - j) i.1 i.2.1 i.2.2) (fun i hi2 ih2 => ?_) (ps, k, 1) (show (Sp.Cpt ps ps k (k + 1)) ∧ (1 ≤ 1 ∧ k + 1 ≤ ps.length) from ⟨by (exact Sp.cpt_start hk.1 (by omega) hi ((Sp.eqb_iff _ _).1 (by assumption))), by omega⟩)
      obtain ⟨cur, m, j⟩ := i
      have hi2' : (Sp.Cpt ps cur m (k + j)) ∧ (1 ≤ j ∧ k + j ≤ ps.length) := hi2
      obtain ⟨hc, hj⟩ := hi2'
      show AL _ _ _ (mkSt 1 [(0, .slice (some ⟨0, 0, none⟩) ps.length 0), (2, .slice none 0 0), (3, .int .i64 ((m : Nat) : Int)), (4, .slice (some ⟨0, (0 + k * 2), none⟩) (ps.length - k) 0), (5, .int .i64 ((j : Nat) : Int))] [(0, ⟨(cur.flatMap ptc), 27, true, 2⟩)]) _
      have hcl := hc.len; have hlt := hc.lt; have hle := hc.le
      refine al_round ?_
      refine aw_sq 245166 245167 ?_
      refine aw_p 490333 (
        .a 4 1 <| .nil _ _) ?_
      refine aw_cd 980666 980667 (decide (((j : Nat) : Int) < (((ps.length - k) : Nat) : Int))) (fun h3 => ?_) (fun h3 => ?_)
      · have h3p : ((((j : Nat) : Int) < (((ps.length - k) : Nat) : Int))) := by first | (simpa using h3) | (have h3q := h3; simp at h3q; omega) | (have h3q := bx1 h3; simp at h3q; omega)
        refine aw_sk ?_
        refine then_normal ?_
        refine aw_sq 490334 490335 ?_
        refine aw_bl 3 980669 ?_
        refine aw_d 1961339 (
          .a 2 1 <| .p (does_indexSlice (t := 24) (x := .tmp 35) (y := .tmp 36) (k := 0) (off := (0 + k * 2)) (n := (ps.length - k)) (c := 0) (z := 2) (kd := .i64) (j := ((j : Nat) : Int)) (by kernel_rfl) (by kernel_rfl) (by kernel_rfl) (by kernel_rfl) (by kernel_rfl) (by omega) (by omega)) <|
          .p (does_load (t := 27) (x := .tmp 37) (k := 0) (off := ((0 + k * 2) + (((j : Nat) : Int)).toNat * 2)) (b := ⟨(cur.flatMap ptc), 27, true, 2⟩) (v := .agg #[.int .i64 ((cur.getD (k + j) (0, 0)).1), .int .i64 ((cur.getD (k + j) (0, 0)).2)]) (by kernel_rfl) (by kernel_rfl) (by kernel_rfl) (ldV_pair (j := (k + j)) (by kernel_rfl) (by kernel_rfl) (by omega) (by omega))) <|
          .a 2 1 <| .p (does_i ((j - 1 : Nat) : Int) ((show (IntKind.wrap .i64 (((j : Nat) : Int) - 1)) = ((j - 1 : Nat) : Int) from ((wrap_i64 (by omega) (by omega)).trans (by omega)))) .i64) <|
          .p (does_indexSlice (t := 24) (x := .tmp 39) (y := .tmp 41) (k := 0) (off := (0 + k * 2)) (n := (ps.length - k)) (c := 0) (z := 2) (kd := .i64) (j := ((j - 1 : Nat) : Int)) (by kernel_rfl) (by kernel_rfl) (by kernel_rfl) (by kernel_rfl) (by kernel_rfl) (by omega) (by omega)) <|
          .p (does_load (t := 27) (x := .tmp 42) (k := 0) (off := ((0 + k * 2) + (((j - 1 : Nat) : Int)).toNat * 2)) (b := ⟨(cur.flatMap ptc), 27, true, 2⟩) (v := .agg #[.int .i64 ((cur.getD (k + (j - 1)) (0, 0)).1), .int .i64 ((cur.getD (k + (j - 1)) (0, 0)).2)]) (by kernel_rfl) (by kernel_rfl) (by kernel_rfl) (ldV_pair (j := (k + (j - 1))) (by kernel_rfl) (by kernel_rfl) (by omega) (by omega))) <|
          .p (does_e (!((((cur.getD (k + j) (0, 0)).1) == ((cur.getD (k + (j - 1)) (0, 0)).1)) && ((((cur.getD (k + j) (0, 0)).2) == ((cur.getD (k + (j - 1)) (0, 0)).2)) && true))) (rfl)) <| .nil _ _) ?_
        refine aw_cd 3922678 3922679 (!((((cur.getD (k + j) (0, 0)).1) == ((cur.getD (k + (j - 1)) (0, 0)).1)) && ((((cur.getD (k + j) (0, 0)).2) == ((cur.getD (k + (j - 1)) (0, 0)).2)) && true))) (fun h4 => ?_) (fun h4 => ?_)
        · refine aw_p 7845357 (
            .a 4 1 <| .p (does_indexSlice (t := 24) (x := .tmp 47) (y := .tmp 48) (k := 0) (off := (0 + k * 2)) (n := (ps.length - k)) (c := 0) (z := 2) (kd := .i64) (j := ((j : Nat) : Int)) (by kernel_rfl) (by kernel_rfl) (by kernel_rfl) (by kernel_rfl) (by kernel_rfl) (by omega) (by omega)) <|
            .p (does_load (t := 27) (x := .tmp 49) (k := 0) (off := ((0 + k * 2) + (((j : Nat) : Int)).toNat * 2)) (b := ⟨(cur.flatMap ptc), 27, true, 2⟩) (v := .agg #[.int .i64 ((cur.getD (k + j) (0, 0)).1), .int .i64 ((cur.getD (k + j) (0, 0)).2)]) (by kernel_rfl) (by kernel_rfl) (by kernel_rfl) (ldV_pair (j := (k + j)) (by kernel_rfl) (by kernel_rfl) (by omega) (by omega))) <|
            .p (does_indexSlice (t := 24) (x := .tmp 45) (y := .tmp 46) (k := 0) (off := 0) (n := ps.length) (c := 0) (z := 2) (kd := .i64) (j := ((m : Nat) : Int)) (by kernel_rfl) (by kernel_rfl) (by kernel_rfl) (by kernel_rfl) (by kernel_rfl) (by omega) (by omega)) <|
            .p (does_store (t := 27) (x := .tmp 51) (y := .tmp 50) (k := 0) (off := (0 + (((m : Nat) : Int)).toNat * 2)) (b := ⟨(cur.flatMap ptc), 27, true, 2⟩) (v := .agg #[.int .i64 ((cur.getD (k + j) (0, 0)).1), .int .i64 ((cur.getD (k + j) (0, 0)).2)]) (cells := ((cur.set m (((cur.getD (k + j) (0, 0)).1), ((cur.getD (k + j) (0, 0)).2))).flatMap ptc)) (by kernel_rfl) (by kernel_rfl) (by kernel_rfl) (by kernel_rfl) (by kernel_rfl) (by kernel_rfl) (by kernel_rfl) (Nat.ble_eq_true_of_le (by show _ + 2 ≤ (cur.flatMap ptc).length; rw [pairs_length]; omega)) (set_pair (j := m) (by omega) (by omega))) <| .nil _ _) ?_
          refine aw_p1 (
            .a 1 1 <| .p (does_i (((m : Nat) : Int) + 1) (wrap_i64 (by omega) (by omega)) .i64) <| .a 1 1 <| .nil _ _) ?_
          refine block_normal ?_
          refine then_normal ?_
          refine aw_p1 (
            .a 1 1 <| .p (does_i (((j : Nat) : Int) + 1) (wrap_i64 (by omega) (by omega)) .i64) <| .a 1 1 <| .nil _ _) ?_
          refine then_normal ?_
          refine al_w [(0, .slice (some ⟨0, 0, none⟩) ps.length 0), (2, .slice none 0 0), (3, .int .i64 (((m + 1) : Nat) : Int)), (4, .slice (some ⟨0, (0 + k * 2), none⟩) (ps.length - k) 0), (5, .int .i64 (((j + 1) : Nat) : Int))] [(0, ⟨((cur.set m (((cur.getD (k + j) (0, 0)).1), ((cur.getD (k + j) (0, 0)).2))).flatMap ptc), 27, true, 2⟩)] ?_ (hc := (by simp [closedB, valsB, valB, List.all_eq_true, List.mem_flatMap, List.mem_range, List.mem_map, i64v, ptc, flat1]; try (intros; simp [valsB, valB, flat1]); try decide))
          exact ih2 ((cur.set m (((cur.getD (k + j) (0, 0)).1), ((cur.getD (k + j) (0, 0)).2))), (m + 1), (j + 1)) (show (Sp.Cpt ps (cur.set m (((cur.getD (k + j) (0, 0)).1), ((cur.getD (k + j) (0, 0)).2))) (m + 1) (k + (j + 1))) ∧ (1 ≤ (j + 1) ∧ k + (j + 1) ≤ ps.length) from ⟨by (first | exact Sp.cpt_new2 hj.1 hc (by omega) (Sp.eqb_ne (Sp.nb_t (by assumption))) | exact Sp.cpt_same2 hj.1 hc (by omega) ((Sp.eqb_iff _ _).1 (Sp.nb_f (by assumption)))), by omega⟩) (show ps.length - (j + 1) < ps.length - j from by omega)
        · refine aw_sk ?_
          refine block_normal ?_
          refine then_normal ?_
          refine aw_p1 (
            .a 1 1 <| .p (does_i (((j : Nat) : Int) + 1) (wrap_i64 (by omega) (by omega)) .i64) <| .a 1 1 <| .nil _ _) ?_
          refine then_normal ?_
          refine al_w [(0, .slice (some ⟨0, 0, none⟩) ps.length 0), (2, .slice none 0 0), (3, .int .i64 ((m : Nat) : Int)), (4, .slice (some ⟨0, (0 + k * 2), none⟩) (ps.length - k) 0), (5, .int .i64 (((j + 1) : Nat) : Int))] [(0, ⟨(cur.flatMap ptc), 27, true, 2⟩)] ?_ (hc := (by simp [closedB, valsB, valB, List.all_eq_true, List.mem_flatMap, List.mem_range, List.mem_map, i64v, ptc, flat1]; try (intros; simp [valsB, valB, flat1]); try decide))
          exact ih2 (cur, m, (j + 1)) (show (Sp.Cpt ps cur m (k + (j + 1))) ∧ (1 ≤ (j + 1) ∧ k + (j + 1) ≤ ps.length) from ⟨by (first | exact Sp.cpt_new2 hj.1 hc (by omega) (Sp.eqb_ne (Sp.nb_t (by assumption))) | exact Sp.cpt_same2 hj.1 hc (by omega) ((Sp.eqb_iff _ _).1 (Sp.nb_f (by assumption)))), by omega⟩) (show ps.length - (j + 1) < ps.length - j from by omega)
      · have h3p : ¬ ((((j : Nat) : Int) < (((ps.length - k) : Nat) : Int))) := by first | (simpa using h3) | (have h3q := h3; simp at h3q; omega) | (have h3q := bx2 h3; simp at h3q; omega)
        obtain ⟨he, hel⟩ := Sp.cpt_end hc (by omega) (by omega)
        refine aw_ex 2 ?_
        refine then_exit ?_
        refine then_exit ?_
        refine block_exit ?_
        refine then_normal ?_
        refine aw_p 30647 (
          .a 2 1 <|
          .p (does_val (v' := .slice (some ⟨0, (0 + m * 2), none⟩) (ps.length - m) 0) (does_slice (t := 24) (x := .tmp 54) (lo := some (.tmp 55)) (hi := none) (k := 0) (off := 0) (n := ps.length) (c := 0) (z := 2) (l := ((m : Nat) : Int)) (h := ((ps.length : Nat) : Int)) (m := (ps.length - m)) (b := ⟨(cur.flatMap ptc), 27, true, 2⟩) (by kernel_rfl) (by kernel_rfl) (by kernel_rfl) (by kernel_rfl) (by kernel_rfl) (by kernel_rfl) (by kernel_rfl) (by kernel_rfl) (by omega) (by omega) (by omega) (by omega)) (by kernel_rfl)) <|
          .p (does_clear (k := 0) (off := (0 + m * 2)) (n := (ps.length - m)) (e := 27) (z := 2) (b := ⟨(cur.flatMap ptc), 27, true, 2⟩) (zv := .agg #[.int .i64 0, .int .i64 0]) ((cur.take m).flatMap ptc) (by kernel_rfl) (by kernel_rfl) rfl (by kernel_rfl) (by kernel_rfl) (by omega) (take_pairs (k := m) (by omega)) (by show _ ≤ (cur.flatMap ptc).length; rw [pairs_length]; omega)) <| .nil _ _) ?_
        refine aw_p 61295 (
          .a 2 1 <|
          .p (does_val (v' := .slice (some ⟨0, 0, none⟩) m 0) (does_slice (t := 24) (x := .tmp 57) (lo := none) (hi := some (.tmp 58)) (k := 0) (off := 0) (n := ps.length) (c := 0) (z := 2) (l := 0) (h := ((m : Nat) : Int)) (m := m) (b := ⟨((cur.take m).flatMap ptc), 27, true, 2⟩) (by kernel_rfl) (by kernel_rfl) (by kernel_rfl) (by kernel_rfl) (by kernel_rfl) (by kernel_rfl) (by kernel_rfl) (by kernel_rfl) (by omega) (by omega) (by omega) (by omega)) (by kernel_rfl)) <|
          .a 1 1 <| .nil _ _) ?_
        refine aw_w [(2, .slice (some ⟨0, 0, none⟩) ((Sp.ddp ps).length) 0)] [(0, ⟨((Sp.ddp ps).flatMap ptc), 27, true, 2⟩)] ?_ (by (try rw [hel]); kernel_rfl) (by (try rw [he]); kernel_rfl) (hc := (by simp [closedB, valsB, valB, List.all_eq_true, List.mem_flatMap, List.mem_range, List.mem_map, i64v, ptc, flat1]; try (intros; simp [valsB, valB, flat1]); try decide))
        refine aw_rt ?_
        refine block_ret ?_
        refine then_ret ?_
        refine then_ret ?_
        refine block_ret ?_
        refine then_ret ?_
        exact en_ret [.slice (some ⟨0, 0, none⟩) ((Sp.ddp ps).length) 0] (by kernel_rfl)
    · refine aw_sk ?_
      refine block_normal ?_
      refine then_normal ?_
      refine aw_p1 (
        .a 1 1 <| .p (does_i (((k : Nat) : Int) + 1) (wrap_i64 (by omega) (by omega)) .i64) <| .a 1 1 <| .nil _ _) ?_
      refine then_normal ?_
      refine al_w [(0, .slice (some ⟨0, 0, none⟩) ps.length 0), (2, .slice none 0 0), (3, .int .i64 (((k + 1) : Nat) : Int))] [(0, ⟨(ps.flatMap ptc), 27, true, 2⟩)] ?_ (hc := (by simp [closedB, valsB, valB, List.all_eq_true, List.mem_flatMap, List.mem_range, List.mem_map, i64v, ptc, flat1]; try (intros; simp [valsB, valB, flat1]); try decide))
      exact ih1 (k + 1) (show (1 ≤ (k + 1) ∧ (k + 1) ≤ ps.length) ∧ (Sp.ddp (ps.take (k + 1)) = ps.take (k + 1)) from ⟨by omega, by (exact Sp.cmp_go hk.1 (by omega) hi (Sp.eqb_ne (by assumption)))⟩) (show ps.length - (k + 1) < ps.length - k from by omega)
  · have h1p : ¬ ((((k : Nat) : Int) < ((ps.length : Nat) : Int))) := by first | (simpa using h1) | (have h1q := h1; simp at h1q; omega) | (have h1q := bx2 h1; simp at h1q; omega)
    have hkn : k = ps.length := by omega
    have hdd : Sp.ddp ps = ps := (by rw [hkn, List.take_length] at hi; exact hi)
    refine aw_ex 0 ?_
    refine then_exit ?_
    refine then_exit ?_
    refine block_exit ?_
    refine then_normal ?_
    refine aw_p 31 (
      .a 2 1 <| .nil _ _) ?_
    refine aw_w [(2, .slice (some ⟨0, 0, none⟩) ((Sp.ddp ps).length) 0)] [(0, ⟨((Sp.ddp ps).flatMap ptc), 27, true, 2⟩)] ?_ (by (try rw [hdd]); kernel_rfl) (by (try rw [hdd]); kernel_rfl) (hc := (by simp [closedB, valsB, valB, List.all_eq_true, List.mem_flatMap, List.mem_range, List.mem_map, i64v, ptc, flat1]; try (intros; simp [valsB, valB, flat1]); try decide))
    refine aw_rt ?_
    exact en_ret [.slice (some ⟨0, 0, none⟩) ((Sp.ddp ps).length) 0] (by kernel_rfl)
theorem compact_ok (ps : List (Int × Int)) (hz : ps.length ≤ 8796093021952) : AC Try.prog 33 1 [.slice (some ⟨0, 0, none⟩) ps.length 0] [(0, ⟨(ps.flatMap ptc), 27, true, 2⟩)] (.slice (some ⟨0, 0, none⟩) (Sp.ddp ps).length 0) [(0, ⟨((Sp.ddp ps).flatMap ptc), 27, true, 2⟩)] := by
  by_cases h : ps.length < 2
  · exact compact_short ps hz h
  · exact compact_long ps hz (by omega)
end Go.Proofs.Ytomnkdlfmjdckaa.Am

namespace Go.Proofs.Ytomnkdlfmjdckaa.Am
open Go Go.Proofs
set_option maxRecDepth 100000
set_option maxHeartbeats 4000000
set_option linter.unusedVariables false
set_option linter.unusedSimpArgs false
theorem chain_nil (ps : List (Int × Int))  (hl : Sp.Few 1048576 ps) (hps : 1 ≤ ps.length) (hz : ps.length ≤ 8796093021952) :
    AC Try.prog 34 1 ([.slice none 0 0, .slice (some ⟨0, 0, none⟩) ps.length 0]) [(0, ⟨(ps.flatMap ptc), 27, true, 2⟩)] (.slice (some ⟨1, 0, none⟩) ((Sp.chO ps).length) 0) [(0, ⟨(ps.flatMap ptc), 27, true, 2⟩), (1, ⟨((Sp.chO ps).flatMap ptc), 27, true, 2⟩)] := by
  have hsp := Sp.stk_pos (l := ps) hps; have hsl := Sp.stk_len ps ps.length; have hnop : Sp.nop.length = 0 := rfl; have hb : Sp.Few 1048576 Sp.nop := (fun i => by simp [Sp.nop])
  refine ac_in Try.func34 (fun w0 W pin => ?_)
  refine aw_p 3 (
    .a 1 2 <| .nil _ _) ?_
  refine aw_p 7 (
    .a 3 2 <| .nil _ _) ?_
  refine aw_sq 14 15 ?_
  refine aw_p 29 (
    .a 3 2 <| .nil _ _) ?_
  refine aw_bl 0 59 ?_
  refine aw_lp 119 ?_
  refine al_round ?_
  refine aw_p 239 (
    .p (does_b true ((show (decide (0 < ((ps.length : Nat) : Int))) = true from decide_eq_true (by omega)))) <| .nil _ _) ?_
  refine aw_sq 478 479 ?_
  refine aw_tr 956 ?_
  refine aw_sk ?_
  refine then_normal ?_
  refine aw_sq 958 959 ?_
  refine aw_bl 1 1917 ?_
  refine aw_p 3835 (
    .p (does_indexSlice (t := 24) (x := .tmp 10) (y := .tmp 12) (k := 0) (off := 0) (n := ps.length) (c := 0) (z := 2) (kd := .i64) (j := 0) (by kernel_rfl) (by kernel_rfl) (by kernel_rfl) (by kernel_rfl) (by kernel_rfl) (by omega) (by omega)) <|
    .p (does_load (t := 27) (x := .tmp 14) (k := 0) (off := 0) (b := ⟨(ps.flatMap ptc), 27, true, 2⟩) (v := .agg #[.int .i64 ((ps.getD 0 (0, 0)).1), .int .i64 ((ps.getD 0 (0, 0)).2)]) (by kernel_rfl) (by kernel_rfl) (by kernel_rfl) (ldV_pair (j := 0) (by kernel_rfl) (by kernel_rfl) (by omega) (by first | omega | (simp only [List.length_append, List.length_reverse]; omega)))) <|
    .a 2 2 <| .nil _ _) ?_
  refine aw_sq 7670 7671 ?_
  refine aw_bl 2 15341 ?_
  refine aw_lp 30683 ?_
  refine al_round ?_
  refine aw_sq 61366 61367 ?_
  refine aw_d 122733 (
    .a 22 3 <| .nil _ _) ?_
  refine aw_fl 245467 ?_
  refine aw_ex 2 ?_
  refine then_exit ?_
  refine then_exit ?_
  refine block_exit ?_
  refine then_normal ?_
  refine aw_p1 (
    .a 3 3 <| .p (does_ap 4) <| .a 1 5 <| .nil _ _) ?_
  refine block_normal ?_
  refine then_normal ?_
  refine aw_w [(0, .slice (some ⟨4, 0, none⟩) 1 0), (4, .slice none 0 0), (5, .int .i64 0), (7, .pointer (some ⟨2, 0, none⟩)), (10, .slice (some ⟨0, 0, none⟩) ps.length 0), (11, .int .i64 ((ps.length : Nat) : Int)), (12, .int .i64 0), (13, .bool true), (37, .bool false)] [(0, ⟨(ps.flatMap ptc), 27, true, 2⟩), (2, ⟨[.int .i64 ((ps.getD 0 (0, 0)).1), .int .i64 ((ps.getD 0 (0, 0)).2)], 27, true, 2⟩), (4, ⟨[.int .i64 ((ps.getD 0 (0, 0)).1), .int .i64 ((ps.getD 0 (0, 0)).2)], 27, true, 2⟩)] ?_ (by ((try rw [Sp.stk_len_next _ hpc hst])); kernel_rfl) (by ((try rw [Sp.stk_len_next _ hpc hst])); kernel_rfl) (hc := (by simp [closedB, valsB, valB, List.all_eq_true, List.mem_flatMap, List.mem_range, List.mem_map, i64v, ptc, flat1]; try (intros; simp [valsB, valB, flat1]); try decide))
  refine aw_p1 (
    .a 2 5 <| .nil _ _) ?_
  refine then_normal ?_
  refine al_w [(0, .slice (some ⟨4, 0, none⟩) (Sp.nop.length + (Sp.stk ps 1).length) 0), (4, .slice none 0 0), (5, .int .i64 0), (10, .slice (some ⟨0, 0, none⟩) ps.length 0), (11, .int .i64 ((ps.length : Nat) : Int)), (12, .int .i64 ((1 : Nat) : Int))] [(0, ⟨(ps.flatMap ptc), 27, true, 2⟩), (4, ⟨((Sp.nop ++ (Sp.stk ps 1).reverse).flatMap ptc), 27, true, 2⟩)] ?_ (hc := (by simp [closedB, valsB, valB, List.all_eq_true, List.mem_flatMap, List.mem_range, List.mem_map, i64v, ptc, flat1]; try (intros; simp [valsB, valB, flat1]); try decide))
  refine al_ind (fun i : Nat => (fun (u : Nat) => mkSt 1 [(0, .slice (some ⟨4, 0, none⟩) (Sp.nop.length + (Sp.stk ps u).length) 0), (4, .slice none 0 0), (5, .int .i64 0), (10, .slice (some ⟨0, 0, none⟩) ps.length 0), (11, .int .i64 ((ps.length : Nat) : Int)), (12, .int .i64 ((u : Nat) : Int))] [(0, ⟨(ps.flatMap ptc), 27, true, 2⟩), (4, ⟨((Sp.nop ++ (Sp.stk ps u).reverse).flatMap ptc), 27, true, 2⟩)]) i) (fun i : Nat => (fun (u : Nat) => (1 ≤ u ∧ u ≤ ps.length)) i) (fun i : Nat => (fun (u : Nat) => ps.length - u) i) (fun i hi1 ih1 => ?_) 1 (show (1 ≤ 1 ∧ 1 ≤ ps.length) from by omega)
  obtain ⟨u, hv1⟩ : ∃ z, z = i := ⟨i, rfl⟩; subst hv1
  have hi1' : (1 ≤ u ∧ u ≤ ps.length) := hi1
  have hi : 1 ≤ u ∧ u ≤ ps.length := hi1'
  show AL _ _ _ (mkSt 1 [(0, .slice (some ⟨4, 0, none⟩) (Sp.nop.length + (Sp.stk ps u).length) 0), (4, .slice none 0 0), (5, .int .i64 0), (10, .slice (some ⟨0, 0, none⟩) ps.length 0), (11, .int .i64 ((ps.length : Nat) : Int)), (12, .int .i64 ((u : Nat) : Int))] [(0, ⟨(ps.flatMap ptc), 27, true, 2⟩), (4, ⟨((Sp.nop ++ (Sp.stk ps u).reverse).flatMap ptc), 27, true, 2⟩)]) _
  have hsi := Sp.stk_len ps u
  refine al_round ?_
  refine aw_p 239 (
    .a 1 5 <| .nil _ _) ?_
  refine aw_sq 478 479 ?_
  refine aw_cd 956 957 (decide (((u : Nat) : Int) < ((ps.length : Nat) : Int))) (fun h1 => ?_) (fun h1 => ?_)
  · have h1p : ((((u : Nat) : Int) < ((ps.length : Nat) : Int))) := by first | (simpa using h1) | (have h1q := h1; simp at h1q; omega) | (have h1q := bx1 h1; simp at h1q; omega)
    refine aw_sk ?_
    refine then_normal ?_
    refine aw_sq 958 959 ?_
    refine aw_bl 1 1917 ?_
    refine aw_p 3835 (
      .p (does_indexSlice (t := 24) (x := .tmp 10) (y := .tmp 12) (k := 0) (off := 0) (n := ps.length) (c := 0) (z := 2) (kd := .i64) (j := ((u : Nat) : Int)) (by kernel_rfl) (by kernel_rfl) (by kernel_rfl) (by kernel_rfl) (by kernel_rfl) (by omega) (by omega)) <|
      .p (does_load (t := 27) (x := .tmp 14) (k := 0) (off := (0 + (((u : Nat) : Int)).toNat * 2)) (b := ⟨(ps.flatMap ptc), 27, true, 2⟩) (v := .agg #[.int .i64 ((ps.getD u (0, 0)).1), .int .i64 ((ps.getD u (0, 0)).2)]) (by kernel_rfl) (by kernel_rfl) (by kernel_rfl) (ldV_pair (j := u) (by kernel_rfl) (by kernel_rfl) (by omega) (by first | omega | (simp only [List.length_append, List.length_reverse]; omega)))) <|
      .a 2 5 <| .nil _ _) ?_
    refine aw_sq 7670 7671 ?_
    refine aw_bl 2 15341 ?_
    refine aw_lp 30683 ?_
    refine al_w [(0, .slice (some ⟨4, 0, none⟩) (Sp.nop.length + (Sp.stk ps u).length) 0), (4, .slice none 0 0), (5, .int .i64 0), (7, .pointer (some ⟨5, 0, none⟩)), (10, .slice (some ⟨0, 0, none⟩) ps.length 0), (11, .int .i64 ((ps.length : Nat) : Int)), (12, .int .i64 ((u : Nat) : Int))] [(0, ⟨(ps.flatMap ptc), 27, true, 2⟩), (4, ⟨((Sp.nop ++ (Sp.stk ps u).reverse).flatMap ptc), 27, true, 2⟩), (5, ⟨[.int .i64 ((ps.getD u (0, 0)).1), .int .i64 ((ps.getD u (0, 0)).2)], 27, true, 2⟩)] ?_ (hc := (by simp [closedB, valsB, valB, List.all_eq_true, List.mem_flatMap, List.mem_range, List.mem_map, i64v, ptc, flat1]; try (intros; simp [valsB, valB, flat1]); try decide))
    refine al_ind (fun i : List (Int × Int) => (fun (c : List (Int × Int)) => mkSt 1 [(0, .slice (some ⟨4, 0, none⟩) (Sp.nop.length + c.length) 0), (4, .slice none 0 0), (5, .int .i64 0), (7, .pointer (some ⟨5, 0, none⟩)), (10, .slice (some ⟨0, 0, none⟩) ps.length 0), (11, .int .i64 ((ps.length : Nat) : Int)), (12, .int .i64 ((u : Nat) : Int))] [(0, ⟨(ps.flatMap ptc), 27, true, 2⟩), (4, ⟨((Sp.nop ++ c.reverse).flatMap ptc), 27, true, 2⟩), (5, ⟨[.int .i64 ((ps.getD u (0, 0)).1), .int .i64 ((ps.getD u (0, 0)).2)], 27, true, 2⟩)]) i) (fun i : List (Int × Int) => (fun (c : List (Int × Int)) => (Sp.popC (ps.getD u (0, 0)) c = Sp.popC (ps.getD u (0, 0)) (Sp.stk ps u)) ∧ (∀ p ∈ c, p ∈ ps) ∧ (c.length ≤ (Sp.stk ps u).length)) i) (fun i : List (Int × Int) => (fun (c : List (Int × Int)) => c.length) i) (fun i hi2 ih2 => ?_) (Sp.stk ps u) (show (Sp.popC (ps.getD u (0, 0)) (Sp.stk ps u) = Sp.popC (ps.getD u (0, 0)) (Sp.stk ps u)) ∧ (∀ p ∈ (Sp.stk ps u), p ∈ ps) ∧ ((Sp.stk ps u).length ≤ (Sp.stk ps u).length) from ⟨by rfl, by exact fun p hp => Sp.stk_mem (by omega) hp, by exact Nat.le_refl _⟩)
    obtain ⟨c, hv2⟩ : ∃ z, z = i := ⟨i, rfl⟩; subst hv2
    have hi2' : (Sp.popC (ps.getD u (0, 0)) c = Sp.popC (ps.getD u (0, 0)) (Sp.stk ps u)) ∧ (∀ p ∈ c, p ∈ ps) ∧ (c.length ≤ (Sp.stk ps u).length) := hi2
    obtain ⟨hpc, hcl, hcb⟩ := hi2'
    show AL _ _ _ (mkSt 1 [(0, .slice (some ⟨4, 0, none⟩) (Sp.nop.length + c.length) 0), (4, .slice none 0 0), (5, .int .i64 0), (7, .pointer (some ⟨5, 0, none⟩)), (10, .slice (some ⟨0, 0, none⟩) ps.length 0), (11, .int .i64 ((ps.length : Nat) : Int)), (12, .int .i64 ((u : Nat) : Int))] [(0, ⟨(ps.flatMap ptc), 27, true, 2⟩), (4, ⟨((Sp.nop ++ c.reverse).flatMap ptc), 27, true, 2⟩), (5, ⟨[.int .i64 ((ps.getD u (0, 0)).1), .int .i64 ((ps.getD u (0, 0)).2)], 27, true, 2⟩)]) _
    have hfc := Sp.few_stk (by decide) hb hl hcl; have hfq := hl u
    refine al_round ?_
    refine aw_sq 61366 61367 ?_
    rcases Bool.eq_false_or_eq_true (decide ((((Sp.nop.length + c.length) : Nat) : Int) > 1)) with h2 | h2
    · have h2p : (((((Sp.nop.length + c.length) : Nat) : Int) > 1)) := by first | (simpa using h2) | (have h2q := h2; simp at h2q; omega) | (have h2q := bx1 h2; simp at h2q; omega)
      have hc2 : 2 ≤ c.length := by omega
      have fa := hfc ((Sp.nop.length + c.length) - 2); have fb := hfc ((Sp.nop.length + c.length) - 1)
      refine aw_d 122733 (
        .a 4 6 <| .p (does_b true (h2)) <| .a 4 6 <| .p (does_i (((Sp.nop.length + c.length) - 2 : Nat) : Int) ((show (IntKind.wrap .i64 ((((Sp.nop.length + c.length) : Nat) : Int) - 2)) = (((Sp.nop.length + c.length) - 2 : Nat) : Int) from ((wrap_i64 (by omega) (by omega)).trans (by omega)))) .i64) <|
        .p (does_indexSlice (t := 24) (x := .tmp 22) (y := .tmp 25) (k := 4) (off := 0) (n := (Sp.nop.length + c.length)) (c := 0) (z := 2) (kd := .i64) (j := (((Sp.nop.length + c.length) - 2 : Nat) : Int)) (by kernel_rfl) (by kernel_rfl) (by kernel_rfl) (by kernel_rfl) (by kernel_rfl) (by omega) (by omega)) <|
        .p (does_load (t := 27) (x := .tmp 26) (k := 4) (off := (0 + ((((Sp.nop.length + c.length) - 2 : Nat) : Int)).toNat * 2)) (b := ⟨((Sp.nop ++ c.reverse).flatMap ptc), 27, true, 2⟩) (v := .agg #[.int .i64 (((Sp.nop ++ c.reverse).getD ((Sp.nop.length + c.length) - 2) (0, 0)).1), .int .i64 (((Sp.nop ++ c.reverse).getD ((Sp.nop.length + c.length) - 2) (0, 0)).2)]) (by kernel_rfl) (by kernel_rfl) (by kernel_rfl) (ldV_pair (j := ((Sp.nop.length + c.length) - 2)) (by kernel_rfl) (by kernel_rfl) (by omega) (by first | omega | (simp only [List.length_append, List.length_reverse]; omega)))) <|
        .a 3 6 <| .p (does_i (((Sp.nop.length + c.length) - 1 : Nat) : Int) ((show (IntKind.wrap .i64 ((((Sp.nop.length + c.length) : Nat) : Int) - 1)) = (((Sp.nop.length + c.length) - 1 : Nat) : Int) from ((wrap_i64 (by omega) (by omega)).trans (by omega)))) .i64) <|
        .p (does_indexSlice (t := 24) (x := .tmp 28) (y := .tmp 31) (k := 4) (off := 0) (n := (Sp.nop.length + c.length)) (c := 0) (z := 2) (kd := .i64) (j := (((Sp.nop.length + c.length) - 1 : Nat) : Int)) (by kernel_rfl) (by kernel_rfl) (by kernel_rfl) (by kernel_rfl) (by kernel_rfl) (by omega) (by omega)) <|
        .p (does_load (t := 27) (x := .tmp 32) (k := 4) (off := (0 + ((((Sp.nop.length + c.length) - 1 : Nat) : Int)).toNat * 2)) (b := ⟨((Sp.nop ++ c.reverse).flatMap ptc), 27, true, 2⟩) (v := .agg #[.int .i64 (((Sp.nop ++ c.reverse).getD ((Sp.nop.length + c.length) - 1) (0, 0)).1), .int .i64 (((Sp.nop ++ c.reverse).getD ((Sp.nop.length + c.length) - 1) (0, 0)).2)]) (by kernel_rfl) (by kernel_rfl) (by kernel_rfl) (ldV_pair (j := ((Sp.nop.length + c.length) - 1)) (by kernel_rfl) (by kernel_rfl) (by omega) (by first | omega | (simp only [List.length_append, List.length_reverse]; omega)))) <|
        .a 1 6 <|
        .p (does_c (turn_in (((Sp.nop ++ c.reverse).getD ((Sp.nop.length + c.length) - 2) (0, 0)).1) (((Sp.nop ++ c.reverse).getD ((Sp.nop.length + c.length) - 2) (0, 0)).2) (((Sp.nop ++ c.reverse).getD ((Sp.nop.length + c.length) - 1) (0, 0)).1) (((Sp.nop ++ c.reverse).getD ((Sp.nop.length + c.length) - 1) (0, 0)).2) ((ps.getD u (0, 0)).1) ((ps.getD u (0, 0)).2) (by omega) (by omega) (by omega) (by omega) (by omega) (by omega) (by omega) (by omega) (by omega) (by omega) (by omega) (by omega))) <|
        .p (does_b (Sp.popB (Sp.nop ++ c.reverse) (Sp.nop.length + c.length) (ps.getD u (0, 0)).1 (ps.getD u (0, 0)).2) (Sp.popB_dec _ _ _ _)) <| .a 1 6 <| .nil _ _) ?_
      refine aw_cd 245466 245467 (Sp.popB (Sp.nop ++ c.reverse) (Sp.nop.length + c.length) (ps.getD u (0, 0)).1 (ps.getD u (0, 0)).2) (fun h3 => ?_) (fun h3 => ?_)
      · refine aw_sk ?_
        refine then_normal ?_
        refine aw_bl 3 122735 ?_
        refine aw_p1 (
          .a 3 6 <| .p (does_i (((Sp.nop.length + c.length) - 1 : Nat) : Int) ((show (IntKind.wrap .i64 ((((Sp.nop.length + c.length) : Nat) : Int) - 1)) = (((Sp.nop.length + c.length) - 1 : Nat) : Int) from ((wrap_i64 (by omega) (by omega)).trans (by omega)))) .i64) <|
          .p (does_val (v' := .slice (some ⟨4, 0, none⟩) ((Sp.nop.length + c.length) - 1) 0) (does_slice (t := 24) (x := .tmp 38) (lo := none) (hi := some (.tmp 41)) (k := 4) (off := 0) (n := (Sp.nop.length + c.length)) (c := 0) (z := 2) (l := 0) (h := (((Sp.nop.length + c.length) - 1 : Nat) : Int)) (m := ((Sp.nop.length + c.length) - 1)) (b := ⟨((Sp.nop ++ c.reverse).flatMap ptc), 27, true, 2⟩) (by kernel_rfl) (by kernel_rfl) (by kernel_rfl) (by kernel_rfl) (by kernel_rfl) (by kernel_rfl) (by kernel_rfl) (by kernel_rfl) (by omega) (by omega) (by omega) (by omega)) (by kernel_rfl)) <|
          .a 1 6 <| .nil _ _) ?_
        refine block_normal ?_
        refine then_normal ?_
        refine al_shrink 4 ⟨((Sp.nop ++ c.reverse).flatMap ptc), 27, true, 2⟩ ((Sp.nop ++ c.tail.reverse).flatMap ptc) (2 * ((Sp.nop.length + c.length) - 1)) ?_ (Sp.pop_take (bs := Sp.nop) (by omega))
        refine al_w [(0, .slice (some ⟨4, 0, none⟩) (Sp.nop.length + c.tail.length) 0), (4, .slice none 0 0), (5, .int .i64 0), (7, .pointer (some ⟨5, 0, none⟩)), (10, .slice (some ⟨0, 0, none⟩) ps.length 0), (11, .int .i64 ((ps.length : Nat) : Int)), (12, .int .i64 ((u : Nat) : Int))] [(0, ⟨(ps.flatMap ptc), 27, true, 2⟩), (4, ⟨((Sp.nop ++ c.tail.reverse).flatMap ptc), 27, true, 2⟩), (5, ⟨[.int .i64 ((ps.getD u (0, 0)).1), .int .i64 ((ps.getD u (0, 0)).2)], 27, true, 2⟩)] ?_ (by (rw [show (Sp.nop.length + c.tail.length) = (Sp.nop.length + c.length) - 1 from (by rw [List.length_tail]; omega)]); kernel_rfl) (by kernel_rfl) (hc := (by simp [closedB, valsB, valB, List.all_eq_true, List.mem_flatMap, List.mem_range, List.mem_map, i64v, ptc, flat1]; try (intros; simp [valsB, valB, flat1]); try decide))
        refine al_w [(0, .slice (some ⟨4, 0, none⟩) (Sp.nop.length + c.tail.length) 0), (4, .slice none 0 0), (5, .int .i64 0), (7, .pointer (some ⟨5, 0, none⟩)), (10, .slice (some ⟨0, 0, none⟩) ps.length 0), (11, .int .i64 ((ps.length : Nat) : Int)), (12, .int .i64 ((u : Nat) : Int))] [(0, ⟨(ps.flatMap ptc), 27, true, 2⟩), (4, ⟨((Sp.nop ++ c.tail.reverse).flatMap ptc), 27, true, 2⟩), (5, ⟨[.int .i64 ((ps.getD u (0, 0)).1), .int .i64 ((ps.getD u (0, 0)).2)], 27, true, 2⟩)] ?_ (hc := (by simp [closedB, valsB, valB, List.all_eq_true, List.mem_flatMap, List.mem_range, List.mem_map, i64v, ptc, flat1]; try (intros; simp [valsB, valB, flat1]); try decide))
        exact ih2 c.tail (show (Sp.popC (ps.getD u (0, 0)) c.tail = Sp.popC (ps.getD u (0, 0)) (Sp.stk ps u)) ∧ (∀ p ∈ c.tail, p ∈ ps) ∧ (c.tail.length ≤ (Sp.stk ps u).length) from ⟨by (rw [← hpc]; exact Sp.popC_yes (bs := Sp.nop) hc2 (by assumption)), by exact fun p hp => hcl p (List.mem_of_mem_tail hp), by (rw [List.length_tail]; omega)⟩) (show c.tail.length < c.length from by (rw [List.length_tail]; omega))
      · have hst := Sp.popC_no (bs := Sp.nop) (q := (ps.getD u (0, 0))) hc2 h3
        refine aw_ex 2 ?_
        refine then_exit ?_
        refine then_exit ?_
        refine block_exit ?_
        refine then_normal ?_
        refine aw_p1 (
          .a 3 6 <|
          .p (does_apy 7 27 2 16 4 (Sp.nop.length + c.length) 6 1 ⟨((Sp.nop ++ c.reverse).flatMap ptc), 27, true, 2⟩ ⟨[.int .i64 ((ps.getD u (0, 0)).1), .int .i64 ((ps.getD u (0, 0)).2)], 27, true, 2⟩ ((Sp.nop ++ (Sp.stk ps (u + 1)).reverse).flatMap ptc) (by kernel_rfl) (by kernel_rfl) (by kernel_rfl) (by kernel_rfl) (by kernel_rfl) (by show (((Sp.nop ++ c.reverse).flatMap ptc)).length = _; rw [pairs_length, List.length_append, List.length_reverse]; omega) (by omega) (by omega) (Sp.stk_snoc hpc hst)) <|
          .a 1 8 <| .nil _ _) ?_
        refine block_normal ?_
        refine then_normal ?_
        refine aw_w [(0, .slice (some ⟨7, 0, none⟩) (Sp.nop.length + (Sp.stk ps (u + 1)).length) 0), (4, .slice none 0 0), (5, .int .i64 0), (7, .pointer (some ⟨5, 0, none⟩)), (10, .slice (some ⟨0, 0, none⟩) ps.length 0), (11, .int .i64 ((ps.length : Nat) : Int)), (12, .int .i64 ((u : Nat) : Int)), (37, .bool (Sp.popB (Sp.nop ++ c.reverse) (Sp.nop.length + c.length) (ps.getD u (0, 0)).1 (ps.getD u (0, 0)).2))] [(0, ⟨(ps.flatMap ptc), 27, true, 2⟩), (5, ⟨[.int .i64 ((ps.getD u (0, 0)).1), .int .i64 ((ps.getD u (0, 0)).2)], 27, true, 2⟩), (7, ⟨((Sp.nop ++ (Sp.stk ps (u + 1)).reverse).flatMap ptc), 27, true, 2⟩)] ?_ (by ((try rw [Sp.stk_len_next _ hpc hst])); kernel_rfl) (by ((try rw [Sp.stk_len_next _ hpc hst])); kernel_rfl) (hc := (by simp [closedB, valsB, valB, List.all_eq_true, List.mem_flatMap, List.mem_range, List.mem_map, i64v, ptc, flat1]; try (intros; simp [valsB, valB, flat1]); try decide))
        refine aw_p1 (
          .p (does_i (((u : Nat) : Int) + 1) (wrap_i64 (by omega) (by omega)) .i64) <| .a 1 8 <| .nil _ _) ?_
        refine then_normal ?_
        refine al_r [(4, 7)] [(0, .slice (some ⟨7, 0, none⟩) (Sp.nop.length + (Sp.stk ps (u + 1)).length) 0), (4, .slice none 0 0), (5, .int .i64 0), (10, .slice (some ⟨0, 0, none⟩) ps.length 0), (11, .int .i64 ((ps.length : Nat) : Int)), (12, .int .i64 (((u + 1) : Nat) : Int))] [(0, ⟨(ps.flatMap ptc), 27, true, 2⟩), (7, ⟨((Sp.nop ++ (Sp.stk ps (u + 1)).reverse).flatMap ptc), 27, true, 2⟩)] [(0, .slice (some ⟨4, 0, none⟩) (Sp.nop.length + (Sp.stk ps (u + 1)).length) 0), (4, .slice none 0 0), (5, .int .i64 0), (10, .slice (some ⟨0, 0, none⟩) ps.length 0), (11, .int .i64 ((ps.length : Nat) : Int)), (12, .int .i64 (((u + 1) : Nat) : Int))] [(0, ⟨(ps.flatMap ptc), 27, true, 2⟩), (4, ⟨((Sp.nop ++ (Sp.stk ps (u + 1)).reverse).flatMap ptc), 27, true, 2⟩)] ?_ ⟨rfl, (.slice _ _ _ _ _ rfl), rfl, (.flatB (by kernel_rfl)), rfl, (.flatB (by kernel_rfl)), rfl, (.slice _ _ _ _ _ rfl), rfl, (.flatB (by kernel_rfl)), rfl, (.flatB (by kernel_rfl)), trivial⟩ ⟨rfl, ⟨rfl, rfl, rfl, (.flats (flats_pair _))⟩, rfl, ⟨rfl, rfl, rfl, (.flats (flats_pair _))⟩, trivial⟩
        exact ih1 (u + 1) (show (1 ≤ (u + 1) ∧ (u + 1) ≤ ps.length) from by omega) (show ps.length - (u + 1) < ps.length - u from by omega)
    · have h2p : ¬ (((((Sp.nop.length + c.length) : Nat) : Int) > 1)) := by first | (simpa using h2) | (have h2q := h2; simp at h2q; omega) | (have h2q := bx2 h2; simp at h2q; omega)
      have hst := Sp.popC_short (q := (ps.getD u (0, 0))) (c := c) (by omega)
      refine aw_d 122733 (
        .a 4 6 <| .p (does_b false (h2)) <| .a 17 6 <| .nil _ _) ?_
      refine aw_fl 245467 ?_
      refine aw_ex 2 ?_
      refine then_exit ?_
      refine then_exit ?_
      refine block_exit ?_
      refine then_normal ?_
      refine aw_p1 (
        .a 3 6 <|
        .p (does_apy 7 27 2 16 4 (Sp.nop.length + c.length) 6 1 ⟨((Sp.nop ++ c.reverse).flatMap ptc), 27, true, 2⟩ ⟨[.int .i64 ((ps.getD u (0, 0)).1), .int .i64 ((ps.getD u (0, 0)).2)], 27, true, 2⟩ ((Sp.nop ++ (Sp.stk ps (u + 1)).reverse).flatMap ptc) (by kernel_rfl) (by kernel_rfl) (by kernel_rfl) (by kernel_rfl) (by kernel_rfl) (by show (((Sp.nop ++ c.reverse).flatMap ptc)).length = _; rw [pairs_length, List.length_append, List.length_reverse]; omega) (by omega) (by omega) (Sp.stk_snoc hpc hst)) <|
        .a 1 8 <| .nil _ _) ?_
      refine block_normal ?_
      refine then_normal ?_
      refine aw_w [(0, .slice (some ⟨7, 0, none⟩) (Sp.nop.length + (Sp.stk ps (u + 1)).length) 0), (4, .slice none 0 0), (5, .int .i64 0), (7, .pointer (some ⟨5, 0, none⟩)), (10, .slice (some ⟨0, 0, none⟩) ps.length 0), (11, .int .i64 ((ps.length : Nat) : Int)), (12, .int .i64 ((u : Nat) : Int)), (37, .bool false)] [(0, ⟨(ps.flatMap ptc), 27, true, 2⟩), (5, ⟨[.int .i64 ((ps.getD u (0, 0)).1), .int .i64 ((ps.getD u (0, 0)).2)], 27, true, 2⟩), (7, ⟨((Sp.nop ++ (Sp.stk ps (u + 1)).reverse).flatMap ptc), 27, true, 2⟩)] ?_ (by ((try rw [Sp.stk_len_next _ hpc hst])); kernel_rfl) (by ((try rw [Sp.stk_len_next _ hpc hst])); kernel_rfl) (hc := (by simp [closedB, valsB, valB, List.all_eq_true, List.mem_flatMap, List.mem_range, List.mem_map, i64v, ptc, flat1]; try (intros; simp [valsB, valB, flat1]); try decide))
      refine aw_p1 (
        .p (does_i (((u : Nat) : Int) + 1) (wrap_i64 (by omega) (by omega)) .i64) <| .a 1 8 <| .nil _ _) ?_
      refine then_normal ?_
      refine al_r [(4, 7)] [(0, .slice (some ⟨7, 0, none⟩) (Sp.nop.length + (Sp.stk ps (u + 1)).length) 0), (4, .slice none 0 0), (5, .int .i64 0), (10, .slice (some ⟨0, 0, none⟩) ps.length 0), (11, .int .i64 ((ps.length : Nat) : Int)), (12, .int .i64 (((u + 1) : Nat) : Int))] [(0, ⟨(ps.flatMap ptc), 27, true, 2⟩), (7, ⟨((Sp.nop ++ (Sp.stk ps (u + 1)).reverse).flatMap ptc), 27, true, 2⟩)] [(0, .slice (some ⟨4, 0, none⟩) (Sp.nop.length + (Sp.stk ps (u + 1)).length) 0), (4, .slice none 0 0), (5, .int .i64 0), (10, .slice (some ⟨0, 0, none⟩) ps.length 0), (11, .int .i64 ((ps.length : Nat) : Int)), (12, .int .i64 (((u + 1) : Nat) : Int))] [(0, ⟨(ps.flatMap ptc), 27, true, 2⟩), (4, ⟨((Sp.nop ++ (Sp.stk ps (u + 1)).reverse).flatMap ptc), 27, true, 2⟩)] ?_ ⟨rfl, (.slice _ _ _ _ _ rfl), rfl, (.flatB (by kernel_rfl)), rfl, (.flatB (by kernel_rfl)), rfl, (.slice _ _ _ _ _ rfl), rfl, (.flatB (by kernel_rfl)), rfl, (.flatB (by kernel_rfl)), trivial⟩ ⟨rfl, ⟨rfl, rfl, rfl, (.flats (flats_pair _))⟩, rfl, ⟨rfl, rfl, rfl, (.flats (flats_pair _))⟩, trivial⟩
      exact ih1 (u + 1) (show (1 ≤ (u + 1) ∧ (u + 1) ≤ ps.length) from by omega) (show ps.length - (u + 1) < ps.length - u from by omega)
  · have h1p : ¬ ((((u : Nat) : Int) < ((ps.length : Nat) : Int))) := by first | (simpa using h1) | (have h1q := h1; simp at h1q; omega) | (have h1q := bx2 h1; simp at h1q; omega)
    have hin : u = ps.length := by omega
    refine aw_ex 0 ?_
    refine then_exit ?_
    refine then_exit ?_
    refine block_exit ?_
    refine then_normal ?_
    refine aw_w [(0, .slice (some ⟨4, 0, none⟩) (Sp.nop.length + (Sp.stk ps ps.length).length) 0), (4, .slice none 0 0)] [(0, ⟨(ps.flatMap ptc), 27, true, 2⟩), (4, ⟨((Sp.nop ++ (Sp.stk ps ps.length).reverse).flatMap ptc), 27, true, 2⟩)] ?_ (by subst hin; kernel_rfl) (by subst hin; kernel_rfl) (hc := (by simp [closedB, valsB, valB, List.all_eq_true, List.mem_flatMap, List.mem_range, List.mem_map, i64v, ptc, flat1]; try (intros; simp [valsB, valB, flat1]); try decide))
    refine aw_p 31 (
      .a 3 5 <|
      .p (does_i (((Sp.nop.length + (Sp.stk ps ps.length).length) - 1 : Nat) : Int) ((show (IntKind.wrap .i64 (((Sp.nop.length + (Sp.stk ps ps.length).length : Nat) : Int) - 1)) = (((Sp.nop.length + (Sp.stk ps ps.length).length) - 1 : Nat) : Int) from ((wrap_i64 (by omega) (by omega)).trans (by omega)))) .i64) <|
      .p (does_val (v' := .slice (some ⟨4, 0, none⟩) ((Sp.nop.length + (Sp.stk ps ps.length).length) - 1) 0) (does_slice (t := 24) (x := .tmp 48) (lo := none) (hi := some (.tmp 51)) (k := 4) (off := 0) (n := (Sp.nop.length + (Sp.stk ps ps.length).length)) (c := 0) (z := 2) (l := 0) (h := (((Sp.nop.length + (Sp.stk ps ps.length).length) - 1 : Nat) : Int)) (m := ((Sp.nop.length + (Sp.stk ps ps.length).length) - 1)) (b := ⟨((Sp.nop ++ (Sp.stk ps ps.length).reverse).flatMap ptc), 27, true, 2⟩) (by kernel_rfl) (by kernel_rfl) (by kernel_rfl) (by kernel_rfl) (by kernel_rfl) (by kernel_rfl) (by kernel_rfl) (by kernel_rfl) (by omega) (by omega) (by omega) (by omega)) (by kernel_rfl)) <|
      .a 1 5 <| .nil _ _) ?_
    refine aw_shrink 4 ⟨((Sp.nop ++ (Sp.stk ps ps.length).reverse).flatMap ptc), 27, true, 2⟩ ((Sp.chO ps).flatMap ptc) (2 * ((Sp.nop.length + (Sp.stk ps ps.length).length) - 1)) ?_ (Sp.pop_take (bs := Sp.nop) hsp)
    refine aw_w [(4, .slice (some ⟨4, 0, none⟩) ((Sp.chO ps).length) 0)] [(0, ⟨(ps.flatMap ptc), 27, true, 2⟩), (4, ⟨((Sp.chO ps).flatMap ptc), 27, true, 2⟩)] ?_ (by (rw [show (Sp.chO ps).length = (Sp.nop.length + (Sp.stk ps ps.length).length) - 1 from Sp.chO_len2 (bs := Sp.nop) hps]); kernel_rfl) (by kernel_rfl) (hc := (by simp [closedB, valsB, valB, List.all_eq_true, List.mem_flatMap, List.mem_range, List.mem_map, i64v, ptc, flat1]; try (intros; simp [valsB, valB, flat1]); try decide))
    refine aw_r [(1, 4)] [(4, .slice (some ⟨4, 0, none⟩) ((Sp.chO ps).length) 0)] [(0, ⟨(ps.flatMap ptc), 27, true, 2⟩), (4, ⟨((Sp.chO ps).flatMap ptc), 27, true, 2⟩)] [(4, .slice (some ⟨1, 0, none⟩) ((Sp.chO ps).length) 0)] [(0, ⟨(ps.flatMap ptc), 27, true, 2⟩), (1, ⟨((Sp.chO ps).flatMap ptc), 27, true, 2⟩)] ?_ ⟨rfl, (.slice _ _ _ _ _ rfl), trivial⟩ ⟨rfl, ⟨rfl, rfl, rfl, (.flats (flats_pair _))⟩, rfl, ⟨rfl, rfl, rfl, (.flats (flats_pair _))⟩, trivial⟩
    refine aw_rt ?_
    exact en_ret [.slice (some ⟨1, 0, none⟩) ((Sp.chO ps).length) 0] (by kernel_rfl)
theorem chain_app (bs ps : List (Int × Int)) (hb : Sp.Few 1048576 bs) (hl : Sp.Few 1048576 ps) (hps : 1 ≤ ps.length) (hz : ∀ i, i ≤ ps.length → bs.length + (Sp.stk ps i).length ≤ 8796093022000) (hz2 : ps.length ≤ 8796093021952) :
    AC Try.prog 34 2 ([.slice (some ⟨0, 0, none⟩) bs.length 0, .slice (some ⟨1, 0, none⟩) ps.length 0]) [(0, ⟨(bs.flatMap ptc), 27, true, 2⟩), (1, ⟨(ps.flatMap ptc), 27, true, 2⟩)] (.slice (some ⟨2, 0, none⟩) ((bs ++ Sp.chO ps).length) 0) [(1, ⟨(ps.flatMap ptc), 27, true, 2⟩), (2, ⟨((bs ++ Sp.chO ps).flatMap ptc), 27, true, 2⟩)] := by
  have hsp := Sp.stk_pos (l := ps) hps; have hsl := Sp.stk_len ps ps.length; have hz0 := hz 0 (by omega); have hzn := hz ps.length (Nat.le_refl _)
  refine ac_in Try.func34 (fun w0 W pin => ?_)
  refine aw_p 3 (
    .a 1 3 <| .nil _ _) ?_
  refine aw_p 7 (
    .a 3 3 <| .nil _ _) ?_
  refine aw_sq 14 15 ?_
  refine aw_p 29 (
    .a 3 3 <| .nil _ _) ?_
  refine aw_bl 0 59 ?_
  refine aw_lp 119 ?_
  refine al_round ?_
  refine aw_p 239 (
    .p (does_b true ((show (decide (0 < ((ps.length : Nat) : Int))) = true from decide_eq_true (by omega)))) <| .nil _ _) ?_
  refine aw_sq 478 479 ?_
  refine aw_tr 956 ?_
  refine aw_sk ?_
  refine then_normal ?_
  refine aw_sq 958 959 ?_
  refine aw_bl 1 1917 ?_
  refine aw_p 3835 (
    .p (does_indexSlice (t := 24) (x := .tmp 10) (y := .tmp 12) (k := 1) (off := 0) (n := ps.length) (c := 0) (z := 2) (kd := .i64) (j := 0) (by kernel_rfl) (by kernel_rfl) (by kernel_rfl) (by kernel_rfl) (by kernel_rfl) (by omega) (by omega)) <|
    .p (does_load (t := 27) (x := .tmp 14) (k := 1) (off := 0) (b := ⟨(ps.flatMap ptc), 27, true, 2⟩) (v := .agg #[.int .i64 ((ps.getD 0 (0, 0)).1), .int .i64 ((ps.getD 0 (0, 0)).2)]) (by kernel_rfl) (by kernel_rfl) (by kernel_rfl) (ldV_pair (j := 0) (by kernel_rfl) (by kernel_rfl) (by omega) (by first | omega | (simp only [List.length_append, List.length_reverse]; omega)))) <|
    .a 2 3 <| .nil _ _) ?_
  refine aw_sq 7670 7671 ?_
  refine aw_bl 2 15341 ?_
  refine aw_lp 30683 ?_
  refine al_round ?_
  refine aw_sq 61366 61367 ?_
  refine aw_d 122733 (
    .a 3 4 <| .p (does_i (((bs.length : Nat) : Int) + 1) (wrap_i64 (by omega) (by omega)) .i64) <| .p (does_b false ((show (decide (((bs.length : Nat) : Int) > (((bs.length : Nat) : Int) + 1))) = false from decide_eq_false (by omega)))) <| .a 17 4 <| .nil _ _) ?_
  refine aw_fl 245467 ?_
  refine aw_ex 2 ?_
  refine then_exit ?_
  refine then_exit ?_
  refine block_exit ?_
  refine then_normal ?_
  refine aw_p1 (
    .a 3 4 <|
    .p (does_apy 5 27 2 16 0 bs.length 4 1 ⟨(bs.flatMap ptc), 27, true, 2⟩ ⟨[.int .i64 ((ps.getD 0 (0, 0)).1), .int .i64 ((ps.getD 0 (0, 0)).2)], 27, true, 2⟩ ((bs ++ [(((ps.getD 0 (0, 0)).1), ((ps.getD 0 (0, 0)).2))]).flatMap ptc) (by kernel_rfl) (by kernel_rfl) (by kernel_rfl) (by kernel_rfl) (by kernel_rfl) (by rw [pairs_length]; omega) (by omega) (by omega) (by simp [ptc])) <|
    .a 1 6 <| .nil _ _) ?_
  refine block_normal ?_
  refine then_normal ?_
  refine aw_w [(0, .slice (some ⟨5, 0, none⟩) (bs.length + 1) 0), (4, .slice none 0 0), (5, .int .i64 ((bs.length : Nat) : Int)), (7, .pointer (some ⟨3, 0, none⟩)), (10, .slice (some ⟨1, 0, none⟩) ps.length 0), (11, .int .i64 ((ps.length : Nat) : Int)), (12, .int .i64 0), (13, .bool true), (37, .bool false)] [(1, ⟨(ps.flatMap ptc), 27, true, 2⟩), (3, ⟨[.int .i64 ((ps.getD 0 (0, 0)).1), .int .i64 ((ps.getD 0 (0, 0)).2)], 27, true, 2⟩), (5, ⟨((bs ++ [(((ps.getD 0 (0, 0)).1), ((ps.getD 0 (0, 0)).2))]).flatMap ptc), 27, true, 2⟩)] ?_ (by ((try rw [Sp.stk_len_next _ hpc hst])); kernel_rfl) (by ((try rw [Sp.stk_len_next _ hpc hst])); kernel_rfl) (hc := (by simp [closedB, valsB, valB, List.all_eq_true, List.mem_flatMap, List.mem_range, List.mem_map, i64v, ptc, flat1]; try (intros; simp [valsB, valB, flat1]); try decide))
  refine aw_p1 (
    .a 2 6 <| .nil _ _) ?_
  refine then_normal ?_
  refine al_w [(0, .slice (some ⟨5, 0, none⟩) (bs.length + (Sp.stk ps 1).length) 0), (4, .slice none 0 0), (5, .int .i64 ((bs.length : Nat) : Int)), (10, .slice (some ⟨1, 0, none⟩) ps.length 0), (11, .int .i64 ((ps.length : Nat) : Int)), (12, .int .i64 ((1 : Nat) : Int))] [(1, ⟨(ps.flatMap ptc), 27, true, 2⟩), (5, ⟨((bs ++ (Sp.stk ps 1).reverse).flatMap ptc), 27, true, 2⟩)] ?_ (hc := (by simp [closedB, valsB, valB, List.all_eq_true, List.mem_flatMap, List.mem_range, List.mem_map, i64v, ptc, flat1]; try (intros; simp [valsB, valB, flat1]); try decide))
  refine al_ind (fun i : Nat => (fun (u : Nat) => mkSt 2 [(0, .slice (some ⟨5, 0, none⟩) (bs.length + (Sp.stk ps u).length) 0), (4, .slice none 0 0), (5, .int .i64 ((bs.length : Nat) : Int)), (10, .slice (some ⟨1, 0, none⟩) ps.length 0), (11, .int .i64 ((ps.length : Nat) : Int)), (12, .int .i64 ((u : Nat) : Int))] [(1, ⟨(ps.flatMap ptc), 27, true, 2⟩), (5, ⟨((bs ++ (Sp.stk ps u).reverse).flatMap ptc), 27, true, 2⟩)]) i) (fun i : Nat => (fun (u : Nat) => (1 ≤ u ∧ u ≤ ps.length)) i) (fun i : Nat => (fun (u : Nat) => ps.length - u) i) (fun i hi1 ih1 => ?_) 1 (show (1 ≤ 1 ∧ 1 ≤ ps.length) from by omega)
  obtain ⟨u, hv1⟩ : ∃ z, z = i := ⟨i, rfl⟩; subst hv1
  have hi1' : (1 ≤ u ∧ u ≤ ps.length) := hi1
  have hi : 1 ≤ u ∧ u ≤ ps.length := hi1'
  show AL _ _ _ (mkSt 2 [(0, .slice (some ⟨5, 0, none⟩) (bs.length + (Sp.stk ps u).length) 0), (4, .slice none 0 0), (5, .int .i64 ((bs.length : Nat) : Int)), (10, .slice (some ⟨1, 0, none⟩) ps.length 0), (11, .int .i64 ((ps.length : Nat) : Int)), (12, .int .i64 ((u : Nat) : Int))] [(1, ⟨(ps.flatMap ptc), 27, true, 2⟩), (5, ⟨((bs ++ (Sp.stk ps u).reverse).flatMap ptc), 27, true, 2⟩)]) _
  have hsi := Sp.stk_len ps u
  have hzu := hz u (by omega)
  refine al_round ?_
  refine aw_p 239 (
    .a 1 6 <| .nil _ _) ?_
  refine aw_sq 478 479 ?_
  refine aw_cd 956 957 (decide (((u : Nat) : Int) < ((ps.length : Nat) : Int))) (fun h1 => ?_) (fun h1 => ?_)
  · have h1p : ((((u : Nat) : Int) < ((ps.length : Nat) : Int))) := by first | (simpa using h1) | (have h1q := h1; simp at h1q; omega) | (have h1q := bx1 h1; simp at h1q; omega)
    refine aw_sk ?_
    refine then_normal ?_
    refine aw_sq 958 959 ?_
    refine aw_bl 1 1917 ?_
    refine aw_p 3835 (
      .p (does_indexSlice (t := 24) (x := .tmp 10) (y := .tmp 12) (k := 1) (off := 0) (n := ps.length) (c := 0) (z := 2) (kd := .i64) (j := ((u : Nat) : Int)) (by kernel_rfl) (by kernel_rfl) (by kernel_rfl) (by kernel_rfl) (by kernel_rfl) (by omega) (by omega)) <|
      .p (does_load (t := 27) (x := .tmp 14) (k := 1) (off := (0 + (((u : Nat) : Int)).toNat * 2)) (b := ⟨(ps.flatMap ptc), 27, true, 2⟩) (v := .agg #[.int .i64 ((ps.getD u (0, 0)).1), .int .i64 ((ps.getD u (0, 0)).2)]) (by kernel_rfl) (by kernel_rfl) (by kernel_rfl) (ldV_pair (j := u) (by kernel_rfl) (by kernel_rfl) (by omega) (by first | omega | (simp only [List.length_append, List.length_reverse]; omega)))) <|
      .a 2 6 <| .nil _ _) ?_
    refine aw_sq 7670 7671 ?_
    refine aw_bl 2 15341 ?_
    refine aw_lp 30683 ?_
    refine al_w [(0, .slice (some ⟨5, 0, none⟩) (bs.length + (Sp.stk ps u).length) 0), (4, .slice none 0 0), (5, .int .i64 ((bs.length : Nat) : Int)), (7, .pointer (some ⟨6, 0, none⟩)), (10, .slice (some ⟨1, 0, none⟩) ps.length 0), (11, .int .i64 ((ps.length : Nat) : Int)), (12, .int .i64 ((u : Nat) : Int))] [(1, ⟨(ps.flatMap ptc), 27, true, 2⟩), (5, ⟨((bs ++ (Sp.stk ps u).reverse).flatMap ptc), 27, true, 2⟩), (6, ⟨[.int .i64 ((ps.getD u (0, 0)).1), .int .i64 ((ps.getD u (0, 0)).2)], 27, true, 2⟩)] ?_ (hc := (by simp [closedB, valsB, valB, List.all_eq_true, List.mem_flatMap, List.mem_range, List.mem_map, i64v, ptc, flat1]; try (intros; simp [valsB, valB, flat1]); try decide))
    refine al_ind (fun i : List (Int × Int) => (fun (c : List (Int × Int)) => mkSt 2 [(0, .slice (some ⟨5, 0, none⟩) (bs.length + c.length) 0), (4, .slice none 0 0), (5, .int .i64 ((bs.length : Nat) : Int)), (7, .pointer (some ⟨6, 0, none⟩)), (10, .slice (some ⟨1, 0, none⟩) ps.length 0), (11, .int .i64 ((ps.length : Nat) : Int)), (12, .int .i64 ((u : Nat) : Int))] [(1, ⟨(ps.flatMap ptc), 27, true, 2⟩), (5, ⟨((bs ++ c.reverse).flatMap ptc), 27, true, 2⟩), (6, ⟨[.int .i64 ((ps.getD u (0, 0)).1), .int .i64 ((ps.getD u (0, 0)).2)], 27, true, 2⟩)]) i) (fun i : List (Int × Int) => (fun (c : List (Int × Int)) => (Sp.popC (ps.getD u (0, 0)) c = Sp.popC (ps.getD u (0, 0)) (Sp.stk ps u)) ∧ (∀ p ∈ c, p ∈ ps) ∧ (c.length ≤ (Sp.stk ps u).length)) i) (fun i : List (Int × Int) => (fun (c : List (Int × Int)) => c.length) i) (fun i hi2 ih2 => ?_) (Sp.stk ps u) (show (Sp.popC (ps.getD u (0, 0)) (Sp.stk ps u) = Sp.popC (ps.getD u (0, 0)) (Sp.stk ps u)) ∧ (∀ p ∈ (Sp.stk ps u), p ∈ ps) ∧ ((Sp.stk ps u).length ≤ (Sp.stk ps u).length) from ⟨by rfl, by exact fun p hp => Sp.stk_mem (by omega) hp, by exact Nat.le_refl _⟩)
    obtain ⟨c, hv2⟩ : ∃ z, z = i := ⟨i, rfl⟩; subst hv2
    have hi2' : (Sp.popC (ps.getD u (0, 0)) c = Sp.popC (ps.getD u (0, 0)) (Sp.stk ps u)) ∧ (∀ p ∈ c, p ∈ ps) ∧ (c.length ≤ (Sp.stk ps u).length) := hi2
    obtain ⟨hpc, hcl, hcb⟩ := hi2'
    show AL _ _ _ (mkSt 2 [(0, .slice (some ⟨5, 0, none⟩) (bs.length + c.length) 0), (4, .slice none 0 0), (5, .int .i64 ((bs.length : Nat) : Int)), (7, .pointer (some ⟨6, 0, none⟩)), (10, .slice (some ⟨1, 0, none⟩) ps.length 0), (11, .int .i64 ((ps.length : Nat) : Int)), (12, .int .i64 ((u : Nat) : Int))] [(1, ⟨(ps.flatMap ptc), 27, true, 2⟩), (5, ⟨((bs ++ c.reverse).flatMap ptc), 27, true, 2⟩), (6, ⟨[.int .i64 ((ps.getD u (0, 0)).1), .int .i64 ((ps.getD u (0, 0)).2)], 27, true, 2⟩)]) _
    have hfc := Sp.few_stk (by decide) hb hl hcl; have hfq := hl u
    refine al_round ?_
    refine aw_sq 61366 61367 ?_
    rcases Bool.eq_false_or_eq_true (decide ((((bs.length + c.length) : Nat) : Int) > (((bs.length : Nat) : Int) + 1))) with h2 | h2
    · have h2p : (((((bs.length + c.length) : Nat) : Int) > (((bs.length : Nat) : Int) + 1))) := by first | (simpa using h2) | (have h2q := h2; simp at h2q; omega) | (have h2q := bx1 h2; simp at h2q; omega)
      have hc2 : 2 ≤ c.length := by omega
      have fa := hfc ((bs.length + c.length) - 2); have fb := hfc ((bs.length + c.length) - 1)
      refine aw_d 122733 (
        .a 3 7 <| .p (does_i (((bs.length : Nat) : Int) + 1) (wrap_i64 (by omega) (by omega)) .i64) <| .p (does_b true (h2)) <| .a 4 7 <|
        .p (does_i (((bs.length + c.length) - 2 : Nat) : Int) ((show (IntKind.wrap .i64 ((((bs.length + c.length) : Nat) : Int) - 2)) = (((bs.length + c.length) - 2 : Nat) : Int) from ((wrap_i64 (by omega) (by omega)).trans (by omega)))) .i64) <|
        .p (does_indexSlice (t := 24) (x := .tmp 22) (y := .tmp 25) (k := 5) (off := 0) (n := (bs.length + c.length)) (c := 0) (z := 2) (kd := .i64) (j := (((bs.length + c.length) - 2 : Nat) : Int)) (by kernel_rfl) (by kernel_rfl) (by kernel_rfl) (by kernel_rfl) (by kernel_rfl) (by omega) (by omega)) <|
        .p (does_load (t := 27) (x := .tmp 26) (k := 5) (off := (0 + ((((bs.length + c.length) - 2 : Nat) : Int)).toNat * 2)) (b := ⟨((bs ++ c.reverse).flatMap ptc), 27, true, 2⟩) (v := .agg #[.int .i64 (((bs ++ c.reverse).getD ((bs.length + c.length) - 2) (0, 0)).1), .int .i64 (((bs ++ c.reverse).getD ((bs.length + c.length) - 2) (0, 0)).2)]) (by kernel_rfl) (by kernel_rfl) (by kernel_rfl) (ldV_pair (j := ((bs.length + c.length) - 2)) (by kernel_rfl) (by kernel_rfl) (by omega) (by first | omega | (simp only [List.length_append, List.length_reverse]; omega)))) <|
        .a 3 7 <| .p (does_i (((bs.length + c.length) - 1 : Nat) : Int) ((show (IntKind.wrap .i64 ((((bs.length + c.length) : Nat) : Int) - 1)) = (((bs.length + c.length) - 1 : Nat) : Int) from ((wrap_i64 (by omega) (by omega)).trans (by omega)))) .i64) <|
        .p (does_indexSlice (t := 24) (x := .tmp 28) (y := .tmp 31) (k := 5) (off := 0) (n := (bs.length + c.length)) (c := 0) (z := 2) (kd := .i64) (j := (((bs.length + c.length) - 1 : Nat) : Int)) (by kernel_rfl) (by kernel_rfl) (by kernel_rfl) (by kernel_rfl) (by kernel_rfl) (by omega) (by omega)) <|
        .p (does_load (t := 27) (x := .tmp 32) (k := 5) (off := (0 + ((((bs.length + c.length) - 1 : Nat) : Int)).toNat * 2)) (b := ⟨((bs ++ c.reverse).flatMap ptc), 27, true, 2⟩) (v := .agg #[.int .i64 (((bs ++ c.reverse).getD ((bs.length + c.length) - 1) (0, 0)).1), .int .i64 (((bs ++ c.reverse).getD ((bs.length + c.length) - 1) (0, 0)).2)]) (by kernel_rfl) (by kernel_rfl) (by kernel_rfl) (ldV_pair (j := ((bs.length + c.length) - 1)) (by kernel_rfl) (by kernel_rfl) (by omega) (by first | omega | (simp only [List.length_append, List.length_reverse]; omega)))) <|
        .a 1 7 <|
        .p (does_c (turn_in (((bs ++ c.reverse).getD ((bs.length + c.length) - 2) (0, 0)).1) (((bs ++ c.reverse).getD ((bs.length + c.length) - 2) (0, 0)).2) (((bs ++ c.reverse).getD ((bs.length + c.length) - 1) (0, 0)).1) (((bs ++ c.reverse).getD ((bs.length + c.length) - 1) (0, 0)).2) ((ps.getD u (0, 0)).1) ((ps.getD u (0, 0)).2) (by omega) (by omega) (by omega) (by omega) (by omega) (by omega) (by omega) (by omega) (by omega) (by omega) (by omega) (by omega))) <|
        .p (does_b (Sp.popB (bs ++ c.reverse) (bs.length + c.length) (ps.getD u (0, 0)).1 (ps.getD u (0, 0)).2) (Sp.popB_dec _ _ _ _)) <| .a 1 7 <| .nil _ _) ?_
      refine aw_cd 245466 245467 (Sp.popB (bs ++ c.reverse) (bs.length + c.length) (ps.getD u (0, 0)).1 (ps.getD u (0, 0)).2) (fun h3 => ?_) (fun h3 => ?_)
      · refine aw_sk ?_
        refine then_normal ?_
        refine aw_bl 3 122735 ?_
        refine aw_p1 (
          .a 3 7 <| .p (does_i (((bs.length + c.length) - 1 : Nat) : Int) ((show (IntKind.wrap .i64 ((((bs.length + c.length) : Nat) : Int) - 1)) = (((bs.length + c.length) - 1 : Nat) : Int) from ((wrap_i64 (by omega) (by omega)).trans (by omega)))) .i64) <|
          .p (does_val (v' := .slice (some ⟨5, 0, none⟩) ((bs.length + c.length) - 1) 0) (does_slice (t := 24) (x := .tmp 38) (lo := none) (hi := some (.tmp 41)) (k := 5) (off := 0) (n := (bs.length + c.length)) (c := 0) (z := 2) (l := 0) (h := (((bs.length + c.length) - 1 : Nat) : Int)) (m := ((bs.length + c.length) - 1)) (b := ⟨((bs ++ c.reverse).flatMap ptc), 27, true, 2⟩) (by kernel_rfl) (by kernel_rfl) (by kernel_rfl) (by kernel_rfl) (by kernel_rfl) (by kernel_rfl) (by kernel_rfl) (by kernel_rfl) (by omega) (by omega) (by omega) (by omega)) (by kernel_rfl)) <|
          .a 1 7 <| .nil _ _) ?_
        refine block_normal ?_
        refine then_normal ?_
        refine al_shrink 5 ⟨((bs ++ c.reverse).flatMap ptc), 27, true, 2⟩ ((bs ++ c.tail.reverse).flatMap ptc) (2 * ((bs.length + c.length) - 1)) ?_ (Sp.pop_take (bs := bs) (by omega))
        refine al_w [(0, .slice (some ⟨5, 0, none⟩) (bs.length + c.tail.length) 0), (4, .slice none 0 0), (5, .int .i64 ((bs.length : Nat) : Int)), (7, .pointer (some ⟨6, 0, none⟩)), (10, .slice (some ⟨1, 0, none⟩) ps.length 0), (11, .int .i64 ((ps.length : Nat) : Int)), (12, .int .i64 ((u : Nat) : Int))] [(1, ⟨(ps.flatMap ptc), 27, true, 2⟩), (5, ⟨((bs ++ c.tail.reverse).flatMap ptc), 27, true, 2⟩), (6, ⟨[.int .i64 ((ps.getD u (0, 0)).1), .int .i64 ((ps.getD u (0, 0)).2)], 27, true, 2⟩)] ?_ (by (rw [show (bs.length + c.tail.length) = (bs.length + c.length) - 1 from (by rw [List.length_tail]; omega)]); kernel_rfl) (by kernel_rfl) (hc := (by simp [closedB, valsB, valB, List.all_eq_true, List.mem_flatMap, List.mem_range, List.mem_map, i64v, ptc, flat1]; try (intros; simp [valsB, valB, flat1]); try decide))
        refine al_w [(0, .slice (some ⟨5, 0, none⟩) (bs.length + c.tail.length) 0), (4, .slice none 0 0), (5, .int .i64 ((bs.length : Nat) : Int)), (7, .pointer (some ⟨6, 0, none⟩)), (10, .slice (some ⟨1, 0, none⟩) ps.length 0), (11, .int .i64 ((ps.length : Nat) : Int)), (12, .int .i64 ((u : Nat) : Int))] [(1, ⟨(ps.flatMap ptc), 27, true, 2⟩), (5, ⟨((bs ++ c.tail.reverse).flatMap ptc), 27, true, 2⟩), (6, ⟨[.int .i64 ((ps.getD u (0, 0)).1), .int .i64 ((ps.getD u (0, 0)).2)], 27, true, 2⟩)] ?_ (hc := (by simp [closedB, valsB, valB, List.all_eq_true, List.mem_flatMap, List.mem_range, List.mem_map, i64v, ptc, flat1]; try (intros; simp [valsB, valB, flat1]); try decide))
        exact ih2 c.tail (show (Sp.popC (ps.getD u (0, 0)) c.tail = Sp.popC (ps.getD u (0, 0)) (Sp.stk ps u)) ∧ (∀ p ∈ c.tail, p ∈ ps) ∧ (c.tail.length ≤ (Sp.stk ps u).length) from ⟨by (rw [← hpc]; exact Sp.popC_yes (bs := bs) hc2 (by assumption)), by exact fun p hp => hcl p (List.mem_of_mem_tail hp), by (rw [List.length_tail]; omega)⟩) (show c.tail.length < c.length from by (rw [List.length_tail]; omega))
      · have hst := Sp.popC_no (bs := bs) (q := (ps.getD u (0, 0))) hc2 h3
        refine aw_ex 2 ?_
        refine then_exit ?_
        refine then_exit ?_
        refine block_exit ?_
        refine then_normal ?_
        refine aw_p1 (
          .a 3 7 <|
          .p (does_apy 8 27 2 16 5 (bs.length + c.length) 7 1 ⟨((bs ++ c.reverse).flatMap ptc), 27, true, 2⟩ ⟨[.int .i64 ((ps.getD u (0, 0)).1), .int .i64 ((ps.getD u (0, 0)).2)], 27, true, 2⟩ ((bs ++ (Sp.stk ps (u + 1)).reverse).flatMap ptc) (by kernel_rfl) (by kernel_rfl) (by kernel_rfl) (by kernel_rfl) (by kernel_rfl) (by show (((bs ++ c.reverse).flatMap ptc)).length = _; rw [pairs_length, List.length_append, List.length_reverse]; omega) (by omega) (by omega) (Sp.stk_snoc hpc hst)) <|
          .a 1 9 <| .nil _ _) ?_
        refine block_normal ?_
        refine then_normal ?_
        refine aw_w [(0, .slice (some ⟨8, 0, none⟩) (bs.length + (Sp.stk ps (u + 1)).length) 0), (4, .slice none 0 0), (5, .int .i64 ((bs.length : Nat) : Int)), (7, .pointer (some ⟨6, 0, none⟩)), (10, .slice (some ⟨1, 0, none⟩) ps.length 0), (11, .int .i64 ((ps.length : Nat) : Int)), (12, .int .i64 ((u : Nat) : Int)), (37, .bool (Sp.popB (bs ++ c.reverse) (bs.length + c.length) (ps.getD u (0, 0)).1 (ps.getD u (0, 0)).2))] [(1, ⟨(ps.flatMap ptc), 27, true, 2⟩), (6, ⟨[.int .i64 ((ps.getD u (0, 0)).1), .int .i64 ((ps.getD u (0, 0)).2)], 27, true, 2⟩), (8, ⟨((bs ++ (Sp.stk ps (u + 1)).reverse).flatMap ptc), 27, true, 2⟩)] ?_ (by ((try rw [Sp.stk_len_next _ hpc hst])); kernel_rfl) (by ((try rw [Sp.stk_len_next _ hpc hst])); kernel_rfl) (hc := (by simp [closedB, valsB, valB, List.all_eq_true, List.mem_flatMap, List.mem_range, List.mem_map, i64v, ptc, flat1]; try (intros; simp [valsB, valB, flat1]); try decide))
        refine aw_p1 (
          .p (does_i (((u : Nat) : Int) + 1) (wrap_i64 (by omega) (by omega)) .i64) <| .a 1 9 <| .nil _ _) ?_
        refine then_normal ?_
        refine al_r [(5, 8)] [(0, .slice (some ⟨8, 0, none⟩) (bs.length + (Sp.stk ps (u + 1)).length) 0), (4, .slice none 0 0), (5, .int .i64 ((bs.length : Nat) : Int)), (10, .slice (some ⟨1, 0, none⟩) ps.length 0), (11, .int .i64 ((ps.length : Nat) : Int)), (12, .int .i64 (((u + 1) : Nat) : Int))] [(1, ⟨(ps.flatMap ptc), 27, true, 2⟩), (8, ⟨((bs ++ (Sp.stk ps (u + 1)).reverse).flatMap ptc), 27, true, 2⟩)] [(0, .slice (some ⟨5, 0, none⟩) (bs.length + (Sp.stk ps (u + 1)).length) 0), (4, .slice none 0 0), (5, .int .i64 ((bs.length : Nat) : Int)), (10, .slice (some ⟨1, 0, none⟩) ps.length 0), (11, .int .i64 ((ps.length : Nat) : Int)), (12, .int .i64 (((u + 1) : Nat) : Int))] [(1, ⟨(ps.flatMap ptc), 27, true, 2⟩), (5, ⟨((bs ++ (Sp.stk ps (u + 1)).reverse).flatMap ptc), 27, true, 2⟩)] ?_ ⟨rfl, (.slice _ _ _ _ _ rfl), rfl, (.flatB (by kernel_rfl)), rfl, (.flatB (by kernel_rfl)), rfl, (.slice _ _ _ _ _ rfl), rfl, (.flatB (by kernel_rfl)), rfl, (.flatB (by kernel_rfl)), trivial⟩ ⟨rfl, ⟨rfl, rfl, rfl, (.flats (flats_pair _))⟩, rfl, ⟨rfl, rfl, rfl, (.flats (flats_pair _))⟩, trivial⟩
        exact ih1 (u + 1) (show (1 ≤ (u + 1) ∧ (u + 1) ≤ ps.length) from by omega) (show ps.length - (u + 1) < ps.length - u from by omega)
    · have h2p : ¬ (((((bs.length + c.length) : Nat) : Int) > (((bs.length : Nat) : Int) + 1))) := by first | (simpa using h2) | (have h2q := h2; simp at h2q; omega) | (have h2q := bx2 h2; simp at h2q; omega)
      have hst := Sp.popC_short (q := (ps.getD u (0, 0))) (c := c) (by omega)
      refine aw_d 122733 (
        .a 3 7 <| .p (does_i (((bs.length : Nat) : Int) + 1) (wrap_i64 (by omega) (by omega)) .i64) <| .p (does_b false (h2)) <| .a 17 7 <| .nil _ _) ?_
      refine aw_fl 245467 ?_
      refine aw_ex 2 ?_
      refine then_exit ?_
      refine then_exit ?_
      refine block_exit ?_
      refine then_normal ?_
      refine aw_p1 (
        .a 3 7 <|
        .p (does_apy 8 27 2 16 5 (bs.length + c.length) 7 1 ⟨((bs ++ c.reverse).flatMap ptc), 27, true, 2⟩ ⟨[.int .i64 ((ps.getD u (0, 0)).1), .int .i64 ((ps.getD u (0, 0)).2)], 27, true, 2⟩ ((bs ++ (Sp.stk ps (u + 1)).reverse).flatMap ptc) (by kernel_rfl) (by kernel_rfl) (by kernel_rfl) (by kernel_rfl) (by kernel_rfl) (by show (((bs ++ c.reverse).flatMap ptc)).length = _; rw [pairs_length, List.length_append, List.length_reverse]; omega) (by omega) (by omega) (Sp.stk_snoc hpc hst)) <|
        .a 1 9 <| .nil _ _) ?_
      refine block_normal ?_
      refine then_normal ?_
      refine aw_w [(0, .slice (some ⟨8, 0, none⟩) (bs.length + (Sp.stk ps (u + 1)).length) 0), (4, .slice none 0 0), (5, .int .i64 ((bs.length : Nat) : Int)), (7, .pointer (some ⟨6, 0, none⟩)), (10, .slice (some ⟨1, 0, none⟩) ps.length 0), (11, .int .i64 ((ps.length : Nat) : Int)), (12, .int .i64 ((u : Nat) : Int)), (37, .bool false)] [(1, ⟨(ps.flatMap ptc), 27, true, 2⟩), (6, ⟨[.int .i64 ((ps.getD u (0, 0)).1), .int .i64 ((ps.getD u (0, 0)).2)], 27, true, 2⟩), (8, ⟨((bs ++ (Sp.stk ps (u + 1)).reverse).flatMap ptc), 27, true, 2⟩)] ?_ (by ((try rw [Sp.stk_len_next _ hpc hst])); kernel_rfl) (by ((try rw [Sp.stk_len_next _ hpc hst])); kernel_rfl) (hc := (by simp [closedB, valsB, valB, List.all_eq_true, List.mem_flatMap, List.mem_range, List.mem_map, i64v, ptc, flat1]; try (intros; simp [valsB, valB, flat1]); try decide))
      refine aw_p1 (
        .p (does_i (((u : Nat) : Int) + 1) (wrap_i64 (by omega) (by omega)) .i64) <| .a 1 9 <| .nil _ _) ?_
      refine then_normal ?_
      refine al_r [(5, 8)] [(0, .slice (some ⟨8, 0, none⟩) (bs.length + (Sp.stk ps (u + 1)).length) 0), (4, .slice none 0 0), (5, .int .i64 ((bs.length : Nat) : Int)), (10, .slice (some ⟨1, 0, none⟩) ps.length 0), (11, .int .i64 ((ps.length : Nat) : Int)), (12, .int .i64 (((u + 1) : Nat) : Int))] [(1, ⟨(ps.flatMap ptc), 27, true, 2⟩), (8, ⟨((bs ++ (Sp.stk ps (u + 1)).reverse).flatMap ptc), 27, true, 2⟩)] [(0, .slice (some ⟨5, 0, none⟩) (bs.length + (Sp.stk ps (u + 1)).length) 0), (4, .slice none 0 0), (5, .int .i64 ((bs.length : Nat) : Int)), (10, .slice (some ⟨1, 0, none⟩) ps.length 0), (11, .int .i64 ((ps.length : Nat) : Int)), (12, .int .i64 (((u + 1) : Nat) : Int))] [(1, ⟨(ps.flatMap ptc), 27, true, 2⟩), (5, ⟨((bs ++ (Sp.stk ps (u + 1)).reverse).flatMap ptc), 27, true, 2⟩)] ?_ ⟨rfl, (.slice _ _ _ _ _ rfl), rfl, (.flatB (by kernel_rfl)), rfl, (.flatB (by kernel_rfl)), rfl, (.slice _ _ _ _ _ rfl), rfl, (.flatB (by kernel_rfl)), rfl, (.flatB (by kernel_rfl)), trivial⟩ ⟨rfl, ⟨rfl, rfl, rfl, (.flats (flats_pair _))⟩, rfl, ⟨rfl, rfl, rfl, (.flats (flats_pair _))⟩, trivial⟩
      exact ih1 (u + 1) (show (1 ≤ (u + 1) ∧ (u + 1) ≤ ps.length) from by omega) (show ps.length - (u + 1) < ps.length - u from by omega)
  · have h1p : ¬ ((((u : Nat) : Int) < ((ps.length : Nat) : Int))) := by first | (simpa using h1) | (have h1q := h1; simp at h1q; omega) | (have h1q := bx2 h1; simp at h1q; omega)
    have hin : u = ps.length := by omega
    refine aw_ex 0 ?_
    refine then_exit ?_
    refine then_exit ?_
    refine block_exit ?_
    refine then_normal ?_
    refine aw_w [(0, .slice (some ⟨5, 0, none⟩) (bs.length + (Sp.stk ps ps.length).length) 0), (4, .slice none 0 0)] [(1, ⟨(ps.flatMap ptc), 27, true, 2⟩), (5, ⟨((bs ++ (Sp.stk ps ps.length).reverse).flatMap ptc), 27, true, 2⟩)] ?_ (by subst hin; kernel_rfl) (by subst hin; kernel_rfl) (hc := (by simp [closedB, valsB, valB, List.all_eq_true, List.mem_flatMap, List.mem_range, List.mem_map, i64v, ptc, flat1]; try (intros; simp [valsB, valB, flat1]); try decide))
    refine aw_p 31 (
      .a 3 6 <|
      .p (does_i (((bs.length + (Sp.stk ps ps.length).length) - 1 : Nat) : Int) ((show (IntKind.wrap .i64 (((bs.length + (Sp.stk ps ps.length).length : Nat) : Int) - 1)) = (((bs.length + (Sp.stk ps ps.length).length) - 1 : Nat) : Int) from ((wrap_i64 (by omega) (by omega)).trans (by omega)))) .i64) <|
      .p (does_val (v' := .slice (some ⟨5, 0, none⟩) ((bs.length + (Sp.stk ps ps.length).length) - 1) 0) (does_slice (t := 24) (x := .tmp 48) (lo := none) (hi := some (.tmp 51)) (k := 5) (off := 0) (n := (bs.length + (Sp.stk ps ps.length).length)) (c := 0) (z := 2) (l := 0) (h := (((bs.length + (Sp.stk ps ps.length).length) - 1 : Nat) : Int)) (m := ((bs.length + (Sp.stk ps ps.length).length) - 1)) (b := ⟨((bs ++ (Sp.stk ps ps.length).reverse).flatMap ptc), 27, true, 2⟩) (by kernel_rfl) (by kernel_rfl) (by kernel_rfl) (by kernel_rfl) (by kernel_rfl) (by kernel_rfl) (by kernel_rfl) (by kernel_rfl) (by omega) (by omega) (by omega) (by omega)) (by kernel_rfl)) <|
      .a 1 6 <| .nil _ _) ?_
    refine aw_shrink 5 ⟨((bs ++ (Sp.stk ps ps.length).reverse).flatMap ptc), 27, true, 2⟩ ((bs ++ Sp.chO ps).flatMap ptc) (2 * ((bs.length + (Sp.stk ps ps.length).length) - 1)) ?_ (Sp.pop_take (bs := bs) hsp)
    refine aw_w [(4, .slice (some ⟨5, 0, none⟩) ((bs ++ Sp.chO ps).length) 0)] [(1, ⟨(ps.flatMap ptc), 27, true, 2⟩), (5, ⟨((bs ++ Sp.chO ps).flatMap ptc), 27, true, 2⟩)] ?_ (by (rw [show (bs ++ Sp.chO ps).length = (bs.length + (Sp.stk ps ps.length).length) - 1 from Sp.chO_len2 (bs := bs) hps]); kernel_rfl) (by kernel_rfl) (hc := (by simp [closedB, valsB, valB, List.all_eq_true, List.mem_flatMap, List.mem_range, List.mem_map, i64v, ptc, flat1]; try (intros; simp [valsB, valB, flat1]); try decide))
    refine aw_r [(2, 5)] [(4, .slice (some ⟨5, 0, none⟩) ((bs ++ Sp.chO ps).length) 0)] [(1, ⟨(ps.flatMap ptc), 27, true, 2⟩), (5, ⟨((bs ++ Sp.chO ps).flatMap ptc), 27, true, 2⟩)] [(4, .slice (some ⟨2, 0, none⟩) ((bs ++ Sp.chO ps).length) 0)] [(1, ⟨(ps.flatMap ptc), 27, true, 2⟩), (2, ⟨((bs ++ Sp.chO ps).flatMap ptc), 27, true, 2⟩)] ?_ ⟨rfl, (.slice _ _ _ _ _ rfl), trivial⟩ ⟨rfl, ⟨rfl, rfl, rfl, (.flats (flats_pair _))⟩, rfl, ⟨rfl, rfl, rfl, (.flats (flats_pair _))⟩, trivial⟩
    refine aw_rt ?_
    exact en_ret [.slice (some ⟨2, 0, none⟩) ((bs ++ Sp.chO ps).length) 0] (by kernel_rfl)
end Go.Proofs.Ytomnkdlfmjdckaa.Am

namespace Go.Proofs.Ytomnkdlfmjdckaa.Am
open Go Go.Proofs
set_option maxRecDepth 100000
set_option maxHeartbeats 4000000
set_option linter.unusedVariables false
set_option linter.unusedSimpArgs false
theorem rev_big (ps : List (Int × Int)) (hn : 1 ≤ ps.length) (hz : ps.length ≤ 8796093021952) :
    AC Try.prog 35 1 ([.slice (some ⟨0, 0, none⟩) ps.length 0]) [(0, ⟨(ps.flatMap ptc), 27, true, 2⟩)] (.tuple #[]) [(0, ⟨(ps.reverse.flatMap ptc), 27, true, 2⟩)] := by
  refine ac_in Try.func35 (fun w0 W pin => ?_)
  refine aw_p 3 (
    .a 2 1 <| .p (does_i ((ps.length - 1 : Nat) : Int) ((show (IntKind.wrap .i64 (((ps.length : Nat) : Int) - 1)) = ((ps.length - 1 : Nat) : Int) from ((wrap_i64 (by omega) (by omega)).trans (by omega)))) .i64) <| .a 2 1 <| .nil _ _) ?_
  refine aw_bl 0 7 ?_
  refine aw_w [(0, .slice (some ⟨0, 0, none⟩) ps.length 0), (2, .int .i64 0), (3, .int .i64 ((ps.length - 1 : Nat) : Int)), (4, .slice (some ⟨0, 0, none⟩) ps.length 0), (5, .int .i64 ((ps.length : Nat) : Int)), (6, .int .i64 ((ps.length - 1 : Nat) : Int))] [(0, ⟨((Sp.rvl ps 0).flatMap ptc), 27, true, 2⟩)] ?_ (by kernel_rfl) (by rw [Sp.rvl_0]; kernel_rfl) (hc := (by simp [closedB, valsB, valB, List.all_eq_true, List.mem_flatMap, List.mem_range, List.mem_map, i64v, ptc, flat1]; try (intros; simp [valsB, valB, flat1]); try decide))
  refine aw_lp 15 ?_
  refine al_w [(0, .slice (some ⟨0, 0, none⟩) ps.length 0), (2, .int .i64 ((0 : Nat) : Int)), (3, .int .i64 (((ps.length - 1) : Nat) : Int))] [(0, ⟨((Sp.rvl ps 0).flatMap ptc), 27, true, 2⟩)] ?_ (hc := (by simp [closedB, valsB, valB, List.all_eq_true, List.mem_flatMap, List.mem_range, List.mem_map, i64v, ptc, flat1]; try (intros; simp [valsB, valB, flat1]); try decide))
  refine al_ind (fun i : Nat × Nat => (fun (u : Nat) (v : Nat) => mkSt 1 [(0, .slice (some ⟨0, 0, none⟩) ps.length 0), (2, .int .i64 ((u : Nat) : Int)), (3, .int .i64 ((v : Nat) : Int))] [(0, ⟨((Sp.rvl ps u).flatMap ptc), 27, true, 2⟩)]) i.1 i.2) (fun i : Nat × Nat => (fun (u : Nat) (v : Nat) => (u + v + 1 = ps.length)) i.1 i.2) (fun i : Nat × Nat => (fun (u : Nat) (v : Nat) => v - u) i.1 i.2) (fun i hi1 ih1 => ?_) (0, (ps.length - 1)) (show (0 + (ps.length - 1) + 1 = ps.length) from by omega)
  obtain ⟨u, v⟩ := i
  have hi1' : (u + v + 1 = ps.length) := hi1
  have hv : u + v + 1 = ps.length := hi1'
  show AL _ _ _ (mkSt 1 [(0, .slice (some ⟨0, 0, none⟩) ps.length 0), (2, .int .i64 ((u : Nat) : Int)), (3, .int .i64 ((v : Nat) : Int))] [(0, ⟨((Sp.rvl ps u).flatMap ptc), 27, true, 2⟩)]) _
  refine al_round ?_
  refine aw_sq 30 31 ?_
  refine aw_p 61 (
    .a 3 1 <| .nil _ _) ?_
  refine aw_cd 122 123 (decide (((u : Nat) : Int) < ((v : Nat) : Int))) (fun h1 => ?_) (fun h1 => ?_)
  · have h1p : ((((u : Nat) : Int) < ((v : Nat) : Int))) := by first | (simpa using h1) | (have h1q := h1; simp at h1q; omega) | (have h1q := bx1 h1; simp at h1q; omega)
    have hlt : u < v := by omega
    refine aw_sk ?_
    refine then_normal ?_
    refine aw_sq 62 63 ?_
    refine aw_bl 1 125 ?_
    refine aw_d1 (
      .a 6 1 <| .p (does_indexSlice (t := 24) (x := .tmp 18) (y := .tmp 19) (k := 0) (off := 0) (n := ps.length) (c := 0) (z := 2) (kd := .i64) (j := ((v : Nat) : Int)) (by kernel_rfl) (by kernel_rfl) (by kernel_rfl) (by kernel_rfl) (by kernel_rfl) (by omega) (by omega)) <|
      .p (does_load (t := 27) (x := .tmp 20) (k := 0) (off := (0 + (((v : Nat) : Int)).toNat * 2)) (b := ⟨((Sp.rvl ps u).flatMap ptc), 27, true, 2⟩) (v := .agg #[.int .i64 (((Sp.rvl ps u).getD v (0, 0)).1), .int .i64 (((Sp.rvl ps u).getD v (0, 0)).2)]) (by kernel_rfl) (by kernel_rfl) (by kernel_rfl) (ldV_pair (j := v) (by kernel_rfl) (by kernel_rfl) (by omega) (by first | omega | (simp only [Sp.rvl_len, List.length_set]; omega)))) <|
      .a 2 1 <| .p (does_indexSlice (t := 24) (x := .tmp 22) (y := .tmp 23) (k := 0) (off := 0) (n := ps.length) (c := 0) (z := 2) (kd := .i64) (j := ((u : Nat) : Int)) (by kernel_rfl) (by kernel_rfl) (by kernel_rfl) (by kernel_rfl) (by kernel_rfl) (by omega) (by omega)) <|
      .p (does_load (t := 27) (x := .tmp 24) (k := 0) (off := (0 + (((u : Nat) : Int)).toNat * 2)) (b := ⟨((Sp.rvl ps u).flatMap ptc), 27, true, 2⟩) (v := .agg #[.int .i64 (((Sp.rvl ps u).getD u (0, 0)).1), .int .i64 (((Sp.rvl ps u).getD u (0, 0)).2)]) (by kernel_rfl) (by kernel_rfl) (by kernel_rfl) (ldV_pair (j := u) (by kernel_rfl) (by kernel_rfl) (by omega) (by first | omega | (simp only [Sp.rvl_len, List.length_set]; omega)))) <|
      .p (does_indexSlice (t := 24) (x := .tmp 14) (y := .tmp 15) (k := 0) (off := 0) (n := ps.length) (c := 0) (z := 2) (kd := .i64) (j := ((u : Nat) : Int)) (by kernel_rfl) (by kernel_rfl) (by kernel_rfl) (by kernel_rfl) (by kernel_rfl) (by omega) (by omega)) <|
      .p (does_store (t := 27) (x := .tmp 26) (y := .tmp 21) (k := 0) (off := (0 + (((u : Nat) : Int)).toNat * 2)) (b := ⟨((Sp.rvl ps u).flatMap ptc), 27, true, 2⟩) (v := .agg #[.int .i64 (((Sp.rvl ps u).getD v (0, 0)).1), .int .i64 (((Sp.rvl ps u).getD v (0, 0)).2)]) (cells := (((Sp.rvl ps u).set u ((((Sp.rvl ps u).getD v (0, 0)).1), (((Sp.rvl ps u).getD v (0, 0)).2))).flatMap ptc)) (by kernel_rfl) (by kernel_rfl) (by kernel_rfl) (by kernel_rfl) (by kernel_rfl) (by kernel_rfl) (by kernel_rfl) (Nat.ble_eq_true_of_le (by show _ + 2 ≤ ((Sp.rvl ps u).flatMap ptc).length; rw [pairs_length]; first | omega | (simp only [Sp.rvl_len, List.length_set]; omega))) (set_pair (j := u) (by omega) (by first | omega | (simp only [Sp.rvl_len, List.length_set]; omega)))) <|
      .p (does_indexSlice (t := 24) (x := .tmp 16) (y := .tmp 17) (k := 0) (off := 0) (n := ps.length) (c := 0) (z := 2) (kd := .i64) (j := ((v : Nat) : Int)) (by kernel_rfl) (by kernel_rfl) (by kernel_rfl) (by kernel_rfl) (by kernel_rfl) (by omega) (by omega)) <|
      .p (does_store (t := 27) (x := .tmp 27) (y := .tmp 25) (k := 0) (off := (0 + (((v : Nat) : Int)).toNat * 2)) (b := ⟨(((Sp.rvl ps u).set u ((((Sp.rvl ps u).getD v (0, 0)).1), (((Sp.rvl ps u).getD v (0, 0)).2))).flatMap ptc), 27, true, 2⟩) (v := .agg #[.int .i64 (((Sp.rvl ps u).getD u (0, 0)).1), .int .i64 (((Sp.rvl ps u).getD u (0, 0)).2)]) (cells := ((((Sp.rvl ps u).set u ((((Sp.rvl ps u).getD v (0, 0)).1), (((Sp.rvl ps u).getD v (0, 0)).2))).set v ((((Sp.rvl ps u).getD u (0, 0)).1), (((Sp.rvl ps u).getD u (0, 0)).2))).flatMap ptc)) (by kernel_rfl) (by kernel_rfl) (by kernel_rfl) (by kernel_rfl) (by kernel_rfl) (by kernel_rfl) (by kernel_rfl) (Nat.ble_eq_true_of_le (by show _ + 2 ≤ (((Sp.rvl ps u).set u ((((Sp.rvl ps u).getD v (0, 0)).1), (((Sp.rvl ps u).getD v (0, 0)).2))).flatMap ptc).length; rw [pairs_length]; first | omega | (simp only [Sp.rvl_len, List.length_set]; omega))) (set_pair (j := v) (by omega) (by first | omega | (simp only [Sp.rvl_len, List.length_set]; omega)))) <| .nil _ _) ?_
    refine block_normal ?_
    refine then_normal ?_
    refine aw_w [(0, .slice (some ⟨0, 0, none⟩) ps.length 0), (2, .int .i64 ((u : Nat) : Int)), (3, .int .i64 ((v : Nat) : Int)), (7, .int .i64 ((u : Nat) : Int)), (8, .int .i64 ((v : Nat) : Int)), (9, .bool (decide (((u : Nat) : Int) < ((v : Nat) : Int)))), (14, .slice (some ⟨0, 0, none⟩) ps.length 0), (15, .int .i64 ((u : Nat) : Int)), (16, .slice (some ⟨0, 0, none⟩) ps.length 0), (17, .int .i64 ((v : Nat) : Int)), (18, .slice (some ⟨0, 0, none⟩) ps.length 0), (19, .int .i64 ((v : Nat) : Int)), (20, .pointer (some ⟨0, 0 + (((v : Nat) : Int)).toNat * 2, none⟩)), (21, .agg #[.int .i64 (((Sp.rvl ps u).getD v (0, 0)).1), .int .i64 (((Sp.rvl ps u).getD v (0, 0)).2)]), (22, .slice (some ⟨0, 0, none⟩) ps.length 0), (23, .int .i64 ((u : Nat) : Int)), (24, .pointer (some ⟨0, 0 + (((u : Nat) : Int)).toNat * 2, none⟩)), (25, .agg #[.int .i64 (((Sp.rvl ps u).getD u (0, 0)).1), .int .i64 (((Sp.rvl ps u).getD u (0, 0)).2)]), (26, .pointer (some ⟨0, 0 + (((u : Nat) : Int)).toNat * 2, none⟩)), (27, .pointer (some ⟨0, 0 + (((v : Nat) : Int)).toNat * 2, none⟩))] [(0, ⟨((Sp.rvl ps (u + 1)).flatMap ptc), 27, true, 2⟩)] ?_ (by kernel_rfl) (by rw [← Sp.rvl_next hv hlt]; kernel_rfl) (hc := (by simp [closedB, valsB, valB, List.all_eq_true, List.mem_flatMap, List.mem_range, List.mem_map, i64v, ptc, flat1]; try (intros; simp [valsB, valB, flat1]); try decide))
    refine aw_p1 (
      .a 1 1 <| .p (does_i (((u : Nat) : Int) + 1) (wrap_i64 (by omega) (by omega)) .i64) <| .a 1 1 <| .p (does_i ((v - 1 : Nat) : Int) ((show (IntKind.wrap .i64 (((v : Nat) : Int) - 1)) = ((v - 1 : Nat) : Int) from ((wrap_i64 (by omega) (by omega)).trans (by omega)))) .i64) <| .a 2 1 <| .nil _ _) ?_
    refine then_normal ?_
    refine al_w [(0, .slice (some ⟨0, 0, none⟩) ps.length 0), (2, .int .i64 (((u + 1) : Nat) : Int)), (3, .int .i64 (((v - 1) : Nat) : Int))] [(0, ⟨((Sp.rvl ps (u + 1)).flatMap ptc), 27, true, 2⟩)] ?_ (hc := (by simp [closedB, valsB, valB, List.all_eq_true, List.mem_flatMap, List.mem_range, List.mem_map, i64v, ptc, flat1]; try (intros; simp [valsB, valB, flat1]); try decide))
    exact ih1 ((u + 1), (v - 1)) (show ((u + 1) + (v - 1) + 1 = ps.length) from by omega) (show (v - 1) - (u + 1) < v - u from by omega)
  · have h1p : ¬ ((((u : Nat) : Int) < ((v : Nat) : Int))) := by first | (simpa using h1) | (have h1q := h1; simp at h1q; omega) | (have h1q := bx2 h1; simp at h1q; omega)
    have hge : ¬ u < v := by omega
    refine aw_w [(0, .slice (some ⟨0, 0, none⟩) ps.length 0), (2, .int .i64 ((u : Nat) : Int)), (3, .int .i64 ((v : Nat) : Int)), (7, .int .i64 ((u : Nat) : Int)), (8, .int .i64 ((v : Nat) : Int)), (9, .bool (decide (((u : Nat) : Int) < ((v : Nat) : Int))))] [(0, ⟨(ps.reverse.flatMap ptc), 27, true, 2⟩)] ?_ (by kernel_rfl) (by rw [← Sp.rvl_end hv hge]; kernel_rfl) (hc := (by simp [closedB, valsB, valB, List.all_eq_true, List.mem_flatMap, List.mem_range, List.mem_map, i64v, ptc, flat1]; try (intros; simp [valsB, valB, flat1]); try decide))
    refine aw_ex 0 ?_
    refine then_exit ?_
    refine then_exit ?_
    refine block_exit ?_
    exact en_normal [] (by kernel_rfl)
end Go.Proofs.Ytomnkdlfmjdckaa.Am

namespace Go.Proofs.Ytomnkdlfmjdckaa.Am
open Go Go.Proofs
set_option maxRecDepth 100000
set_option maxHeartbeats 4000000
set_option linter.unusedVariables false
set_option linter.unusedSimpArgs false
theorem hullof_ro (ps qs ss ds h : List (Int × Int)) (hq : ps.map Sp.lmP = qs) (hss : srtP qs = ss) (hds : Sp.ddp ss = ds) (hh : Sp.hullF qs = h) (h1 : 1 ≤ ps.length) (hz : ps.length ≤ 8796093021952) :
    AC Try.prog 9 1 ([.slice (some ⟨0, 0, none⟩) ps.length 0]) [(0, ⟨(ps.flatMap ptc), 27, false, 2⟩)] (.slice (some ⟨1, 0, none⟩) h.length 0) [(1, ⟨(h.flatMap ptc), 27, true, 2⟩)] := by
  have hql : qs.length = ps.length := (by rw [← hq, List.length_map]); have hf : Sp.Few 1048576 qs := (hq ▸ Sp.few_lim ps); have hsl : ss.length = qs.length := (by rw [← hss, srtP_len]); have hsm : ∀ p ∈ ss, p ∈ qs := (fun p hp => (srtP_perm qs).mem_iff.1 (hss ▸ hp)); have hdm : ∀ p ∈ ds, p ∈ qs := (fun p hp => hsm p (Sp.ddp_mem.1 (hds ▸ hp))); have hdl : ds.length ≤ ss.length := (hds ▸ Sp.ddp_length ss); have hdp : 1 ≤ ds.length := (hds ▸ Sp.ddp_pos (by omega)); have hfd : Sp.Few 1048576 ds := Sp.few_sub (by decide) hf hdm; have hfr : Sp.Few 1048576 ds.reverse := Sp.few_sub (by decide) hfd (fun p hp => List.mem_reverse.1 hp); have hfc : Sp.Few 1048576 (Sp.chO ds) := Sp.few_sub (by decide) hfd (fun p hp => Sp.chO_mem hp); have hcl := Sp.chO_length ds; have hrl : ds.reverse.length = ds.length := List.length_reverse; have hdr : ds.Pairwise Sp.lxP := (by rw [← hds, ← hss]; exact Sp.srd_rise qs); have hzc : ∀ i, i ≤ ds.reverse.length → (Sp.chO ds).length + (Sp.stk ds.reverse i).length ≤ 8796093022000 := (fun i hi => (by have k := Sp.both_len hdr (by omega) (i := i) (by omega); omega))
  refine ac_in Try.func9 (fun w0 W pin => ?_)
  refine aw_p 3 (
    .a 1 2 <| .nil _ _) ?_
  refine aw_p 7 (
    .a 2 2 <| .p (does_mk (kl := .i64) (kc := .i64) (n' := 0) (c' := ((ps.length : Nat) : Int)) 2 27 2 16 0 ps.length (.agg #[.int .i64 0, .int .i64 0]) [] (by kernel_rfl) (by kernel_rfl) (by kernel_rfl) (by kernel_rfl) (by decide) rfl (by omega) (by omega) (by omega)) <| .a 1 3 <| .nil _ _) ?_
  refine aw_sq 14 15 ?_
  refine aw_p 29 (
    .a 3 3 <| .nil _ _) ?_
  refine aw_bl 0 59 ?_
  refine aw_lp 119 ?_
  refine al_w [(2, .slice none 0 0), (3, .slice (some ⟨2, 0, none⟩) 0 0), (10, .slice (some ⟨0, 0, none⟩) ps.length 0), (11, .int .i64 ((ps.length : Nat) : Int)), (12, .int .i64 ((0 : Nat) : Int))] [(0, ⟨(ps.flatMap ptc), 27, false, 2⟩), (2, ⟨(((ps.take 0).map Sp.lmP).flatMap ptc), 27, true, 2⟩)] ?_ (hc := (by simp [closedB, valsB, valB, List.all_eq_true, List.mem_flatMap, List.mem_range, List.mem_map, i64v, ptc, flat1]; try (intros; simp [valsB, valB, flat1]); try decide))
  refine al_ind (fun i : Nat => (fun (i : Nat) => mkSt 1 [(2, .slice none 0 0), (3, .slice (some ⟨2, 0, none⟩) i 0), (10, .slice (some ⟨0, 0, none⟩) ps.length 0), (11, .int .i64 ((ps.length : Nat) : Int)), (12, .int .i64 ((i : Nat) : Int))] [(0, ⟨(ps.flatMap ptc), 27, false, 2⟩), (2, ⟨(((ps.take i).map Sp.lmP).flatMap ptc), 27, true, 2⟩)]) i) (fun i : Nat => (fun (i : Nat) => (i ≤ ps.length)) i) (fun i : Nat => (fun (i : Nat) => ps.length - i) i) (fun i hi1 ih1 => ?_) 0 (show (0 ≤ ps.length) from by omega)
  obtain ⟨i, hv1⟩ : ∃ z, z = i := ⟨i, rfl⟩; subst hv1
  have hi1' : (i ≤ ps.length) := hi1
  have hi : i ≤ ps.length := hi1'
  show AL _ _ _ (mkSt 1 [(2, .slice none 0 0), (3, .slice (some ⟨2, 0, none⟩) i 0), (10, .slice (some ⟨0, 0, none⟩) ps.length 0), (11, .int .i64 ((ps.length : Nat) : Int)), (12, .int .i64 ((i : Nat) : Int))] [(0, ⟨(ps.flatMap ptc), 27, false, 2⟩), (2, ⟨(((ps.take i).map Sp.lmP).flatMap ptc), 27, true, 2⟩)]) _
  refine al_round ?_
  refine aw_p 239 (
    .a 1 3 <| .nil _ _) ?_
  refine aw_sq 478 479 ?_
  refine aw_cd 956 957 (decide (((i : Nat) : Int) < ((ps.length : Nat) : Int))) (fun h1 => ?_) (fun h1 => ?_)
  · have h1p : ((((i : Nat) : Int) < ((ps.length : Nat) : Int))) := by first | (simpa using h1) | (have h1q := h1; simp at h1q; omega) | (have h1q := bx1 h1; simp at h1q; omega)
    have hil : i < ps.length := by omega
    refine aw_sk ?_
    refine then_normal ?_
    refine aw_sq 958 959 ?_
    refine aw_bl 1 1917 ?_
    refine aw_p 3835 (
      .p (does_indexSlice (t := 24) (x := .tmp 10) (y := .tmp 12) (k := 0) (off := 0) (n := ps.length) (c := 0) (z := 2) (kd := .i64) (j := ((i : Nat) : Int)) (by kernel_rfl) (by kernel_rfl) (by kernel_rfl) (by kernel_rfl) (by kernel_rfl) (by omega) (by omega)) <|
      .p (does_load (t := 27) (x := .tmp 14) (k := 0) (off := (0 + (((i : Nat) : Int)).toNat * 2)) (b := ⟨(ps.flatMap ptc), 27, false, 2⟩) (v := .agg #[.int .i64 ((ps.getD i (0, 0)).1), .int .i64 ((ps.getD i (0, 0)).2)]) (by kernel_rfl) (by kernel_rfl) (by kernel_rfl) (ldV_pair (j := i) (by kernel_rfl) (by kernel_rfl) (by omega) (by omega))) <|
      .a 2 3 <| .nil _ _) ?_
    refine aw_p1 (
      .a 2 4 <| .p (does_c (clamp_ok ((ps.getD i (0, 0)).1) ((ps.getD i (0, 0)).2))) <| .a 1 4 <|
      .p (does_apy 5 27 2 16 2 i 4 1 ⟨(((ps.take i).map Sp.lmP).flatMap ptc), 27, true, 2⟩ ⟨[.int .i64 (Sp.lim 1048576 ((ps.getD i (0, 0)).1)), .int .i64 (Sp.lim 1048576 ((ps.getD i (0, 0)).2))], 27, true, 2⟩ (((ps.take (i + 1)).map Sp.lmP).flatMap ptc) (by kernel_rfl) (by kernel_rfl) (by kernel_rfl) (by kernel_rfl) (by kernel_rfl) (by show ((((ps.take i).map Sp.lmP).flatMap ptc)).length = _; rw [pairs_length]; simp; omega) (by omega) (by omega) (Sp.snoc_take hil rfl)) <|
      .a 1 6 <| .nil _ _) ?_
    refine block_normal ?_
    refine then_normal ?_
    refine aw_p1 (
      .p (does_i (((i : Nat) : Int) + 1) (wrap_i64 (by omega) (by omega)) .i64) <| .a 1 6 <| .nil _ _) ?_
    refine then_normal ?_
    refine al_r [(2, 5)] [(2, .slice none 0 0), (3, .slice (some ⟨5, 0, none⟩) (i + 1) 0), (10, .slice (some ⟨0, 0, none⟩) ps.length 0), (11, .int .i64 ((ps.length : Nat) : Int)), (12, .int .i64 (((i + 1) : Nat) : Int))] [(0, ⟨(ps.flatMap ptc), 27, false, 2⟩), (5, ⟨(((ps.take (i + 1)).map Sp.lmP).flatMap ptc), 27, true, 2⟩)] [(2, .slice none 0 0), (3, .slice (some ⟨2, 0, none⟩) (i + 1) 0), (10, .slice (some ⟨0, 0, none⟩) ps.length 0), (11, .int .i64 ((ps.length : Nat) : Int)), (12, .int .i64 (((i + 1) : Nat) : Int))] [(0, ⟨(ps.flatMap ptc), 27, false, 2⟩), (2, ⟨(((ps.take (i + 1)).map Sp.lmP).flatMap ptc), 27, true, 2⟩)] ?_ ⟨rfl, (.flatB (by kernel_rfl)), rfl, (.slice _ _ _ _ _ rfl), rfl, (.slice _ _ _ _ _ rfl), rfl, (.flatB (by kernel_rfl)), rfl, (.flatB (by kernel_rfl)), trivial⟩ ⟨rfl, ⟨rfl, rfl, rfl, (.flats (flats_pair _))⟩, rfl, ⟨rfl, rfl, rfl, (.flats (flats_pair _))⟩, trivial⟩
    exact ih1 (i + 1) (show ((i + 1) ≤ ps.length) from by omega) (show ps.length - (i + 1) < ps.length - i from by omega)
  · have h1p : ¬ ((((i : Nat) : Int) < ((ps.length : Nat) : Int))) := by first | (simpa using h1) | (have h1q := h1; simp at h1q; omega) | (have h1q := bx2 h1; simp at h1q; omega)
    have hin : i = ps.length := by omega
    refine aw_ex 0 ?_
    refine then_exit ?_
    refine then_exit ?_
    refine block_exit ?_
    refine then_normal ?_
    refine aw_w [(2, .slice none 0 0), (3, .slice (some ⟨2, 0, none⟩) qs.length 0)] [(0, ⟨(ps.flatMap ptc), 27, false, 2⟩), (2, ⟨(qs.flatMap ptc), 27, true, 2⟩)] ?_ (by (try (first | rw [show qs.length = i from (by omega)] | rw [show qs = (ps.take i).map Sp.lmP from (by rw [hin, List.take_length, hq])])); kernel_rfl) (by (try (first | rw [show qs.length = i from (by omega)] | rw [show qs = (ps.take i).map Sp.lmP from (by rw [hin, List.take_length, hq])])); kernel_rfl) (hc := (by simp [closedB, valsB, valB, List.all_eq_true, List.mem_flatMap, List.mem_range, List.mem_map, i64v, ptc, flat1]; try (intros; simp [valsB, valB, flat1]); try decide))
    refine aw_p 31 (
      .a 1 3 <|
      .p (does_callB (x := .func 31) (ars := #[.tmp 22, .func 32]) (ats := #[24, 68]) (g := 31) (vs := [.slice (some ⟨2, 0, none⟩) qs.length 0, .func (.func 32) #[] #[]]) (m := 1) (r := 0) (firsts := #[]) (caps := #[]) (args0 := [.slice (some ⟨0, 0, none⟩) qs.length 0, .func (.func 32) #[] #[]]) (pre0 := [(0, ⟨(qs.flatMap ptc), 27, true, 2⟩)]) (post0 := [(0, ⟨((srtP qs).flatMap ptc), 27, true, 2⟩)]) (pre := [(2, ⟨(qs.flatMap ptc), 27, true, 2⟩)]) (post := [(2, ⟨((srtP qs).flatMap ptc), 27, true, 2⟩)]) (v0 := .tuple #[]) (v := .tuple #[]) [2] (by kernel_rfl) (by kernel_rfl) (by kernel_rfl) (by kernel_rfl) (ac_sort Sh.ltP Sh.sortsP qs (by omega) (by omega)) (.cons (.slice _ _ _ _ _ (by decide)) (.cons (.flatB (by kernel_rfl)) .nil)) ⟨rfl, ⟨rfl, rfl, rfl, (.flats (flats_pair _))⟩, trivial⟩ (by kernel_rfl) (by kernel_rfl) (by kernel_rfl) ⟨rfl, ⟨rfl, rfl, rfl, (.flats (flats_pair _))⟩, trivial⟩ (.flatB (by kernel_rfl))) <| .nil _ _) ?_
    refine aw_w [(2, .slice none 0 0), (3, .slice (some ⟨2, 0, none⟩) ss.length 0)] [(0, ⟨(ps.flatMap ptc), 27, false, 2⟩), (2, ⟨(ss.flatMap ptc), 27, true, 2⟩)] ?_ (by (try (first | rw [hsl] | rw [← hss])); kernel_rfl) (by (try (first | rw [hsl] | rw [← hss])); kernel_rfl) (hc := (by simp [closedB, valsB, valB, List.all_eq_true, List.mem_flatMap, List.mem_range, List.mem_map, i64v, ptc, flat1]; try (intros; simp [valsB, valB, flat1]); try decide))
    refine aw_p 63 (
      .a 1 3 <|
      .p (does_callB (x := .func 33) (ars := #[.tmp 24]) (ats := #[24]) (g := 33) (vs := [.slice (some ⟨2, 0, none⟩) ss.length 0]) (m := 1) (r := 0) (firsts := #[]) (caps := #[]) (args0 := [.slice (some ⟨0, 0, none⟩) ss.length 0]) (pre0 := [(0, ⟨(ss.flatMap ptc), 27, true, 2⟩)]) (post0 := [(0, ⟨((Sp.ddp ss).flatMap ptc), 27, true, 2⟩)]) (pre := [(2, ⟨(ss.flatMap ptc), 27, true, 2⟩)]) (post := [(2, ⟨((Sp.ddp ss).flatMap ptc), 27, true, 2⟩)]) (v0 := .slice (some ⟨0, 0, none⟩) ((Sp.ddp ss).length) 0) (v := .slice (some ⟨2, 0, none⟩) ((Sp.ddp ss).length) 0) [2] (by kernel_rfl) (by kernel_rfl) (by kernel_rfl) (by kernel_rfl) (compact_ok ss (by omega)) (.cons (.slice _ _ _ _ _ (by decide)) .nil) ⟨rfl, ⟨rfl, rfl, rfl, (.flats (flats_pair _))⟩, trivial⟩ (by kernel_rfl) (by kernel_rfl) (by kernel_rfl) ⟨rfl, ⟨rfl, rfl, rfl, (.flats (flats_pair _))⟩, trivial⟩ (.slice _ _ _ _ _ (by decide))) <|
      .a 1 3 <| .nil _ _) ?_
    refine aw_w [(2, .slice none 0 0), (3, .slice (some ⟨2, 0, none⟩) ds.length 0)] [(0, ⟨(ps.flatMap ptc), 27, false, 2⟩), (2, ⟨(ds.flatMap ptc), 27, true, 2⟩)] ?_ (by (try rw [← hds]); kernel_rfl) (by (try rw [← hds]); kernel_rfl) (hc := (by simp [closedB, valsB, valB, List.all_eq_true, List.mem_flatMap, List.mem_range, List.mem_map, i64v, ptc, flat1]; try (intros; simp [valsB, valB, flat1]); try decide))
    refine aw_sq 126 127 ?_
    refine aw_p 253 (
      .a 3 3 <| .nil _ _) ?_
    refine aw_cd 506 507 (decide (((ds.length : Nat) : Int) < 2)) (fun h2 => ?_) (fun h2 => ?_)
    · have h2p : ((((ds.length : Nat) : Int) < 2)) := by first | (simpa using h2) | (have h2q := h2; simp at h2q; omega) | (have h2q := bx1 h2; simp at h2q; omega)
      refine aw_p 1013 (
        .a 2 3 <| .nil _ _) ?_
      have hhe : h = ds := hh.symm.trans (Sp.hullF_short hss hds (by omega))
      refine aw_w [(2, .slice (some ⟨2, 0, none⟩) h.length 0)] [(2, ⟨(h.flatMap ptc), 27, true, 2⟩)] ?_ (by rw [hhe]; kernel_rfl) (by rw [hhe]; kernel_rfl) (hc := (by simp [closedB, valsB, valB, List.all_eq_true, List.mem_flatMap, List.mem_range, List.mem_map, i64v, ptc, flat1]; try (intros; simp [valsB, valB, flat1]); try decide))
      refine aw_r [(1, 2)] [(2, .slice (some ⟨2, 0, none⟩) h.length 0)] [(2, ⟨(h.flatMap ptc), 27, true, 2⟩)] [(2, .slice (some ⟨1, 0, none⟩) h.length 0)] [(1, ⟨(h.flatMap ptc), 27, true, 2⟩)] ?_ ⟨rfl, (.slice _ _ _ _ _ rfl), trivial⟩ ⟨rfl, ⟨rfl, rfl, rfl, (.flats (flats_pair _))⟩, trivial⟩
      refine aw_rt ?_
      refine then_ret ?_
      exact en_ret [.slice (some ⟨1, 0, none⟩) h.length 0] (by kernel_rfl)
    · have h2p : ¬ ((((ds.length : Nat) : Int) < 2)) := by first | (simpa using h2) | (have h2q := h2; simp at h2q; omega) | (have h2q := bx2 h2; simp at h2q; omega)
      refine aw_sk ?_
      refine then_normal ?_
      refine aw_p 255 (
        .a 1 3 <|
        .p (does_callB (x := .func 34) (ars := #[.const (.slice none 0 0), .tmp 30]) (ats := #[24, 24]) (g := 34) (vs := [.slice none 0 0, .slice (some ⟨2, 0, none⟩) ds.length 0]) (m := 1) (r := 1) (firsts := #[]) (caps := #[]) (args0 := [.slice none 0 0, .slice (some ⟨0, 0, none⟩) ds.length 0]) (pre0 := [(0, ⟨(ds.flatMap ptc), 27, true, 2⟩)]) (post0 := [(0, ⟨(ds.flatMap ptc), 27, true, 2⟩), (1, ⟨((Sp.chO ds).flatMap ptc), 27, true, 2⟩)]) (pre := [(2, ⟨(ds.flatMap ptc), 27, true, 2⟩)]) (post := [(2, ⟨(ds.flatMap ptc), 27, true, 2⟩), (3, ⟨((Sp.chO ds).flatMap ptc), 27, true, 2⟩)]) (v0 := .slice (some ⟨1, 0, none⟩) ((Sp.chO ds).length) 0) (v := .slice (some ⟨3, 0, none⟩) ((Sp.chO ds).length) 0) [2, 3] (by kernel_rfl) (by kernel_rfl) (by kernel_rfl) (by kernel_rfl) (chain_nil ds hfd (by omega) (by omega)) (.cons (.flatB (by kernel_rfl)) (.cons (.slice _ _ _ _ _ (by decide)) .nil)) ⟨rfl, ⟨rfl, rfl, rfl, (.flats (flats_pair _))⟩, trivial⟩ (by kernel_rfl) (by kernel_rfl) (by kernel_rfl) ⟨rfl, ⟨rfl, rfl, rfl, (.flats (flats_pair _))⟩, rfl, ⟨rfl, rfl, rfl, (.flats (flats_pair _))⟩, trivial⟩ (.slice _ _ _ _ _ (by decide))) <|
        .a 1 4 <| .nil _ _) ?_
      refine aw_p 511 (
        .a 1 4 <|
        .p (does_callB (x := .func 35) (ars := #[.tmp 32]) (ats := #[24]) (g := 35) (vs := [.slice (some ⟨2, 0, none⟩) ds.length 0]) (m := 1) (r := 0) (firsts := #[]) (caps := #[]) (args0 := [.slice (some ⟨0, 0, none⟩) ds.length 0]) (pre0 := [(0, ⟨(ds.flatMap ptc), 27, true, 2⟩)]) (post0 := [(0, ⟨(ds.reverse.flatMap ptc), 27, true, 2⟩)]) (pre := [(2, ⟨(ds.flatMap ptc), 27, true, 2⟩)]) (post := [(2, ⟨(ds.reverse.flatMap ptc), 27, true, 2⟩)]) (v0 := .tuple #[]) (v := .tuple #[]) [2] (by kernel_rfl) (by kernel_rfl) (by kernel_rfl) (by kernel_rfl) (rev_big ds (by omega) (by omega)) (.cons (.slice _ _ _ _ _ (by decide)) .nil) ⟨rfl, ⟨rfl, rfl, rfl, (.flats (flats_pair _))⟩, trivial⟩ (by kernel_rfl) (by kernel_rfl) (by kernel_rfl) ⟨rfl, ⟨rfl, rfl, rfl, (.flats (flats_pair _))⟩, trivial⟩ (.flatB (by kernel_rfl))) <| .nil _ _) ?_
      refine aw_w [(2, .slice none 0 0), (3, .slice (some ⟨2, 0, none⟩) ds.reverse.length 0), (6, .slice (some ⟨3, 0, none⟩) ((Sp.chO ds).length) 0)] [(0, ⟨(ps.flatMap ptc), 27, false, 2⟩), (2, ⟨(ds.reverse.flatMap ptc), 27, true, 2⟩), (3, ⟨((Sp.chO ds).flatMap ptc), 27, true, 2⟩)] ?_ (by (try rw [hrl]); kernel_rfl) (by (try rw [hrl]); kernel_rfl) (hc := (by simp [closedB, valsB, valB, List.all_eq_true, List.mem_flatMap, List.mem_range, List.mem_map, i64v, ptc, flat1]; try (intros; simp [valsB, valB, flat1]); try decide))
      refine aw_p 1023 (
        .a 2 4 <|
        .p (does_callB (x := .func 34) (ars := #[.tmp 34, .tmp 35]) (ats := #[24, 24]) (g := 34) (vs := [.slice (some ⟨3, 0, none⟩) ((Sp.chO ds).length) 0, .slice (some ⟨2, 0, none⟩) ds.reverse.length 0]) (m := 2) (r := 1) (firsts := #[]) (caps := #[]) (args0 := [.slice (some ⟨0, 0, none⟩) ((Sp.chO ds).length) 0, .slice (some ⟨1, 0, none⟩) ds.reverse.length 0]) (pre0 := [(0, ⟨((Sp.chO ds).flatMap ptc), 27, true, 2⟩), (1, ⟨(ds.reverse.flatMap ptc), 27, true, 2⟩)]) (post0 := [(1, ⟨(ds.reverse.flatMap ptc), 27, true, 2⟩), (2, ⟨(((Sp.chO ds) ++ Sp.chO ds.reverse).flatMap ptc), 27, true, 2⟩)]) (pre := [(3, ⟨((Sp.chO ds).flatMap ptc), 27, true, 2⟩), (2, ⟨(ds.reverse.flatMap ptc), 27, true, 2⟩)]) (post := [(2, ⟨(ds.reverse.flatMap ptc), 27, true, 2⟩), (4, ⟨(((Sp.chO ds) ++ Sp.chO ds.reverse).flatMap ptc), 27, true, 2⟩)]) (v0 := .slice (some ⟨2, 0, none⟩) (((Sp.chO ds) ++ Sp.chO ds.reverse).length) 0) (v := .slice (some ⟨4, 0, none⟩) (((Sp.chO ds) ++ Sp.chO ds.reverse).length) 0) [3, 2, 4] (by kernel_rfl) (by kernel_rfl) (by kernel_rfl) (by kernel_rfl) (chain_app (Sp.chO ds) ds.reverse hfc hfr (by omega) hzc (by omega)) (.cons (.slice _ _ _ _ _ (by decide)) (.cons (.slice _ _ _ _ _ (by decide)) .nil)) ⟨rfl, ⟨rfl, rfl, rfl, (.flats (flats_pair _))⟩, rfl, ⟨rfl, rfl, rfl, (.flats (flats_pair _))⟩, trivial⟩ (by kernel_rfl) (by kernel_rfl) (by kernel_rfl) ⟨rfl, ⟨rfl, rfl, rfl, (.flats (flats_pair _))⟩, rfl, ⟨rfl, rfl, rfl, (.flats (flats_pair _))⟩, trivial⟩ (.slice _ _ _ _ _ (by decide))) <|
        .a 1 5 <| .nil _ _) ?_
      have hhe : h = Sp.chO ds ++ Sp.chO ds.reverse := hh.symm.trans (Sp.hullF_long hss hds (by omega))
      refine aw_w [(2, .slice (some ⟨4, 0, none⟩) h.length 0)] [(4, ⟨(h.flatMap ptc), 27, true, 2⟩)] ?_ (by rw [hhe]; kernel_rfl) (by rw [hhe]; kernel_rfl) (hc := (by simp [closedB, valsB, valB, List.all_eq_true, List.mem_flatMap, List.mem_range, List.mem_map, i64v, ptc, flat1]; try (intros; simp [valsB, valB, flat1]); try decide))
      refine aw_r [(1, 4)] [(2, .slice (some ⟨4, 0, none⟩) h.length 0)] [(4, ⟨(h.flatMap ptc), 27, true, 2⟩)] [(2, .slice (some ⟨1, 0, none⟩) h.length 0)] [(1, ⟨(h.flatMap ptc), 27, true, 2⟩)] ?_ ⟨rfl, (.slice _ _ _ _ _ rfl), trivial⟩ ⟨rfl, ⟨rfl, rfl, rfl, (.flats (flats_pair _))⟩, trivial⟩
      refine aw_rt ?_
      exact en_ret [.slice (some ⟨1, 0, none⟩) h.length 0] (by kernel_rfl)
theorem hullof_own (ps qs ss ds h : List (Int × Int)) (hq : ps.map Sp.lmP = qs) (hss : srtP qs = ss) (hds : Sp.ddp ss = ds) (hh : Sp.hullF qs = h) (h1 : 1 ≤ ps.length) (hz : ps.length ≤ 8796093021952) :
    AC Try.prog 9 1 ([.slice (some ⟨0, 0, none⟩) ps.length 0]) [(0, ⟨(ps.flatMap ptc), 27, true, 2⟩)] (.slice (some ⟨1, 0, none⟩) h.length 0) [(0, ⟨(ps.flatMap ptc), 27, true, 2⟩), (1, ⟨(h.flatMap ptc), 27, true, 2⟩)] := by
  have hql : qs.length = ps.length := (by rw [← hq, List.length_map]); have hf : Sp.Few 1048576 qs := (hq ▸ Sp.few_lim ps); have hsl : ss.length = qs.length := (by rw [← hss, srtP_len]); have hsm : ∀ p ∈ ss, p ∈ qs := (fun p hp => (srtP_perm qs).mem_iff.1 (hss ▸ hp)); have hdm : ∀ p ∈ ds, p ∈ qs := (fun p hp => hsm p (Sp.ddp_mem.1 (hds ▸ hp))); have hdl : ds.length ≤ ss.length := (hds ▸ Sp.ddp_length ss); have hdp : 1 ≤ ds.length := (hds ▸ Sp.ddp_pos (by omega)); have hfd : Sp.Few 1048576 ds := Sp.few_sub (by decide) hf hdm; have hfr : Sp.Few 1048576 ds.reverse := Sp.few_sub (by decide) hfd (fun p hp => List.mem_reverse.1 hp); have hfc : Sp.Few 1048576 (Sp.chO ds) := Sp.few_sub (by decide) hfd (fun p hp => Sp.chO_mem hp); have hcl := Sp.chO_length ds; have hrl : ds.reverse.length = ds.length := List.length_reverse; have hdr : ds.Pairwise Sp.lxP := (by rw [← hds, ← hss]; exact Sp.srd_rise qs); have hzc : ∀ i, i ≤ ds.reverse.length → (Sp.chO ds).length + (Sp.stk ds.reverse i).length ≤ 8796093022000 := (fun i hi => (by have k := Sp.both_len hdr (by omega) (i := i) (by omega); omega))
  refine ac_in Try.func9 (fun w0 W pin => ?_)
  refine aw_p 3 (
    .a 1 2 <| .nil _ _) ?_
  refine aw_p 7 (
    .a 2 2 <| .p (does_mk (kl := .i64) (kc := .i64) (n' := 0) (c' := ((ps.length : Nat) : Int)) 2 27 2 16 0 ps.length (.agg #[.int .i64 0, .int .i64 0]) [] (by kernel_rfl) (by kernel_rfl) (by kernel_rfl) (by kernel_rfl) (by decide) rfl (by omega) (by omega) (by omega)) <| .a 1 3 <| .nil _ _) ?_
  refine aw_sq 14 15 ?_
  refine aw_p 29 (
    .a 3 3 <| .nil _ _) ?_
  refine aw_bl 0 59 ?_
  refine aw_lp 119 ?_
  refine al_w [(2, .slice none 0 0), (3, .slice (some ⟨2, 0, none⟩) 0 0), (10, .slice (some ⟨0, 0, none⟩) ps.length 0), (11, .int .i64 ((ps.length : Nat) : Int)), (12, .int .i64 ((0 : Nat) : Int))] [(0, ⟨(ps.flatMap ptc), 27, true, 2⟩), (2, ⟨(((ps.take 0).map Sp.lmP).flatMap ptc), 27, true, 2⟩)] ?_ (hc := (by simp [closedB, valsB, valB, List.all_eq_true, List.mem_flatMap, List.mem_range, List.mem_map, i64v, ptc, flat1]; try (intros; simp [valsB, valB, flat1]); try decide))
  refine al_ind (fun i : Nat => (fun (i : Nat) => mkSt 1 [(2, .slice none 0 0), (3, .slice (some ⟨2, 0, none⟩) i 0), (10, .slice (some ⟨0, 0, none⟩) ps.length 0), (11, .int .i64 ((ps.length : Nat) : Int)), (12, .int .i64 ((i : Nat) : Int))] [(0, ⟨(ps.flatMap ptc), 27, true, 2⟩), (2, ⟨(((ps.take i).map Sp.lmP).flatMap ptc), 27, true, 2⟩)]) i) (fun i : Nat => (fun (i : Nat) => (i ≤ ps.length)) i) (fun i : Nat => (fun (i : Nat) => ps.length - i) i) (fun i hi1 ih1 => ?_) 0 (show (0 ≤ ps.length) from by omega)
  obtain ⟨i, hv1⟩ : ∃ z, z = i := ⟨i, rfl⟩; subst hv1
  have hi1' : (i ≤ ps.length) := hi1
  have hi : i ≤ ps.length := hi1'
  show AL _ _ _ (mkSt 1 [(2, .slice none 0 0), (3, .slice (some ⟨2, 0, none⟩) i 0), (10, .slice (some ⟨0, 0, none⟩) ps.length 0), (11, .int .i64 ((ps.length : Nat) : Int)), (12, .int .i64 ((i : Nat) : Int))] [(0, ⟨(ps.flatMap ptc), 27, true, 2⟩), (2, ⟨(((ps.take i).map Sp.lmP).flatMap ptc), 27, true, 2⟩)]) _
  refine al_round ?_
  refine aw_p 239 (
    .a 1 3 <| .nil _ _) ?_
  refine aw_sq 478 479 ?_
  refine aw_cd 956 957 (decide (((i : Nat) : Int) < ((ps.length : Nat) : Int))) (fun h1 => ?_) (fun h1 => ?_)
  · have h1p : ((((i : Nat) : Int) < ((ps.length : Nat) : Int))) := by first | (simpa using h1) | (have h1q := h1; simp at h1q; omega) | (have h1q := bx1 h1; simp at h1q; omega)
    have hil : i < ps.length := by omega
    refine aw_sk ?_
    refine then_normal ?_
    refine aw_sq 958 959 ?_
    refine aw_bl 1 1917 ?_
    refine aw_p 3835 (
      .p (does_indexSlice (t := 24) (x := .tmp 10) (y := .tmp 12) (k := 0) (off := 0) (n := ps.length) (c := 0) (z := 2) (kd := .i64) (j := ((i : Nat) : Int)) (by kernel_rfl) (by kernel_rfl) (by kernel_rfl) (by kernel_rfl) (by kernel_rfl) (by omega) (by omega)) <|
      .p (does_load (t := 27) (x := .tmp 14) (k := 0) (off := (0 + (((i : Nat) : Int)).toNat * 2)) (b := ⟨(ps.flatMap ptc), 27, true, 2⟩) (v := .agg #[.int .i64 ((ps.getD i (0, 0)).1), .int .i64 ((ps.getD i (0, 0)).2)]) (by kernel_rfl) (by kernel_rfl) (by kernel_rfl) (ldV_pair (j := i) (by kernel_rfl) (by kernel_rfl) (by omega) (by omega))) <|
      .a 2 3 <| .nil _ _) ?_
    refine aw_p1 (
      .a 2 4 <| .p (does_c (clamp_ok ((ps.getD i (0, 0)).1) ((ps.getD i (0, 0)).2))) <| .a 1 4 <|
      .p (does_apy 5 27 2 16 2 i 4 1 ⟨(((ps.take i).map Sp.lmP).flatMap ptc), 27, true, 2⟩ ⟨[.int .i64 (Sp.lim 1048576 ((ps.getD i (0, 0)).1)), .int .i64 (Sp.lim 1048576 ((ps.getD i (0, 0)).2))], 27, true, 2⟩ (((ps.take (i + 1)).map Sp.lmP).flatMap ptc) (by kernel_rfl) (by kernel_rfl) (by kernel_rfl) (by kernel_rfl) (by kernel_rfl) (by show ((((ps.take i).map Sp.lmP).flatMap ptc)).length = _; rw [pairs_length]; simp; omega) (by omega) (by omega) (Sp.snoc_take hil rfl)) <|
      .a 1 6 <| .nil _ _) ?_
    refine block_normal ?_
    refine then_normal ?_
    refine aw_p1 (
      .p (does_i (((i : Nat) : Int) + 1) (wrap_i64 (by omega) (by omega)) .i64) <| .a 1 6 <| .nil _ _) ?_
    refine then_normal ?_
    refine al_r [(2, 5)] [(2, .slice none 0 0), (3, .slice (some ⟨5, 0, none⟩) (i + 1) 0), (10, .slice (some ⟨0, 0, none⟩) ps.length 0), (11, .int .i64 ((ps.length : Nat) : Int)), (12, .int .i64 (((i + 1) : Nat) : Int))] [(0, ⟨(ps.flatMap ptc), 27, true, 2⟩), (5, ⟨(((ps.take (i + 1)).map Sp.lmP).flatMap ptc), 27, true, 2⟩)] [(2, .slice none 0 0), (3, .slice (some ⟨2, 0, none⟩) (i + 1) 0), (10, .slice (some ⟨0, 0, none⟩) ps.length 0), (11, .int .i64 ((ps.length : Nat) : Int)), (12, .int .i64 (((i + 1) : Nat) : Int))] [(0, ⟨(ps.flatMap ptc), 27, true, 2⟩), (2, ⟨(((ps.take (i + 1)).map Sp.lmP).flatMap ptc), 27, true, 2⟩)] ?_ ⟨rfl, (.flatB (by kernel_rfl)), rfl, (.slice _ _ _ _ _ rfl), rfl, (.slice _ _ _ _ _ rfl), rfl, (.flatB (by kernel_rfl)), rfl, (.flatB (by kernel_rfl)), trivial⟩ ⟨rfl, ⟨rfl, rfl, rfl, (.flats (flats_pair _))⟩, rfl, ⟨rfl, rfl, rfl, (.flats (flats_pair _))⟩, trivial⟩
    exact ih1 (i + 1) (show ((i + 1) ≤ ps.length) from by omega) (show ps.length - (i + 1) < ps.length - i from by omega)
  · have h1p : ¬ ((((i : Nat) : Int) < ((ps.length : Nat) : Int))) := by first | (simpa using h1) | (have h1q := h1; simp at h1q; omega) | (have h1q := bx2 h1; simp at h1q; omega)
    have hin : i = ps.length := by omega
    refine aw_ex 0 ?_
    refine then_exit ?_
    refine then_exit ?_
    refine block_exit ?_
    refine then_normal ?_
    refine aw_w [(2, .slice none 0 0), (3, .slice (some ⟨2, 0, none⟩) qs.length 0)] [(0, ⟨(ps.flatMap ptc), 27, true, 2⟩), (2, ⟨(qs.flatMap ptc), 27, true, 2⟩)] ?_ (by (try (first | rw [show qs.length = i from (by omega)] | rw [show qs = (ps.take i).map Sp.lmP from (by rw [hin, List.take_length, hq])])); kernel_rfl) (by (try (first | rw [show qs.length = i from (by omega)] | rw [show qs = (ps.take i).map Sp.lmP from (by rw [hin, List.take_length, hq])])); kernel_rfl) (hc := (by simp [closedB, valsB, valB, List.all_eq_true, List.mem_flatMap, List.mem_range, List.mem_map, i64v, ptc, flat1]; try (intros; simp [valsB, valB, flat1]); try decide))
    refine aw_p 31 (
      .a 1 3 <|
      .p (does_callB (x := .func 31) (ars := #[.tmp 22, .func 32]) (ats := #[24, 68]) (g := 31) (vs := [.slice (some ⟨2, 0, none⟩) qs.length 0, .func (.func 32) #[] #[]]) (m := 1) (r := 0) (firsts := #[]) (caps := #[]) (args0 := [.slice (some ⟨0, 0, none⟩) qs.length 0, .func (.func 32) #[] #[]]) (pre0 := [(0, ⟨(qs.flatMap ptc), 27, true, 2⟩)]) (post0 := [(0, ⟨((srtP qs).flatMap ptc), 27, true, 2⟩)]) (pre := [(2, ⟨(qs.flatMap ptc), 27, true, 2⟩)]) (post := [(2, ⟨((srtP qs).flatMap ptc), 27, true, 2⟩)]) (v0 := .tuple #[]) (v := .tuple #[]) [2] (by kernel_rfl) (by kernel_rfl) (by kernel_rfl) (by kernel_rfl) (ac_sort Sh.ltP Sh.sortsP qs (by omega) (by omega)) (.cons (.slice _ _ _ _ _ (by decide)) (.cons (.flatB (by kernel_rfl)) .nil)) ⟨rfl, ⟨rfl, rfl, rfl, (.flats (flats_pair _))⟩, trivial⟩ (by kernel_rfl) (by kernel_rfl) (by kernel_rfl) ⟨rfl, ⟨rfl, rfl, rfl, (.flats (flats_pair _))⟩, trivial⟩ (.flatB (by kernel_rfl))) <| .nil _ _) ?_
    refine aw_w [(2, .slice none 0 0), (3, .slice (some ⟨2, 0, none⟩) ss.length 0)] [(0, ⟨(ps.flatMap ptc), 27, true, 2⟩), (2, ⟨(ss.flatMap ptc), 27, true, 2⟩)] ?_ (by (try (first | rw [hsl] | rw [← hss])); kernel_rfl) (by (try (first | rw [hsl] | rw [← hss])); kernel_rfl) (hc := (by simp [closedB, valsB, valB, List.all_eq_true, List.mem_flatMap, List.mem_range, List.mem_map, i64v, ptc, flat1]; try (intros; simp [valsB, valB, flat1]); try decide))
    refine aw_p 63 (
      .a 1 3 <|
      .p (does_callB (x := .func 33) (ars := #[.tmp 24]) (ats := #[24]) (g := 33) (vs := [.slice (some ⟨2, 0, none⟩) ss.length 0]) (m := 1) (r := 0) (firsts := #[]) (caps := #[]) (args0 := [.slice (some ⟨0, 0, none⟩) ss.length 0]) (pre0 := [(0, ⟨(ss.flatMap ptc), 27, true, 2⟩)]) (post0 := [(0, ⟨((Sp.ddp ss).flatMap ptc), 27, true, 2⟩)]) (pre := [(2, ⟨(ss.flatMap ptc), 27, true, 2⟩)]) (post := [(2, ⟨((Sp.ddp ss).flatMap ptc), 27, true, 2⟩)]) (v0 := .slice (some ⟨0, 0, none⟩) ((Sp.ddp ss).length) 0) (v := .slice (some ⟨2, 0, none⟩) ((Sp.ddp ss).length) 0) [2] (by kernel_rfl) (by kernel_rfl) (by kernel_rfl) (by kernel_rfl) (compact_ok ss (by omega)) (.cons (.slice _ _ _ _ _ (by decide)) .nil) ⟨rfl, ⟨rfl, rfl, rfl, (.flats (flats_pair _))⟩, trivial⟩ (by kernel_rfl) (by kernel_rfl) (by kernel_rfl) ⟨rfl, ⟨rfl, rfl, rfl, (.flats (flats_pair _))⟩, trivial⟩ (.slice _ _ _ _ _ (by decide))) <|
      .a 1 3 <| .nil _ _) ?_
    refine aw_w [(2, .slice none 0 0), (3, .slice (some ⟨2, 0, none⟩) ds.length 0)] [(0, ⟨(ps.flatMap ptc), 27, true, 2⟩), (2, ⟨(ds.flatMap ptc), 27, true, 2⟩)] ?_ (by (try rw [← hds]); kernel_rfl) (by (try rw [← hds]); kernel_rfl) (hc := (by simp [closedB, valsB, valB, List.all_eq_true, List.mem_flatMap, List.mem_range, List.mem_map, i64v, ptc, flat1]; try (intros; simp [valsB, valB, flat1]); try decide))
    refine aw_sq 126 127 ?_
    refine aw_p 253 (
      .a 3 3 <| .nil _ _) ?_
    refine aw_cd 506 507 (decide (((ds.length : Nat) : Int) < 2)) (fun h2 => ?_) (fun h2 => ?_)
    · have h2p : ((((ds.length : Nat) : Int) < 2)) := by first | (simpa using h2) | (have h2q := h2; simp at h2q; omega) | (have h2q := bx1 h2; simp at h2q; omega)
      refine aw_p 1013 (
        .a 2 3 <| .nil _ _) ?_
      have hhe : h = ds := hh.symm.trans (Sp.hullF_short hss hds (by omega))
      refine aw_w [(2, .slice (some ⟨2, 0, none⟩) h.length 0)] [(0, ⟨(ps.flatMap ptc), 27, true, 2⟩), (2, ⟨(h.flatMap ptc), 27, true, 2⟩)] ?_ (by rw [hhe]; kernel_rfl) (by rw [hhe]; kernel_rfl) (hc := (by simp [closedB, valsB, valB, List.all_eq_true, List.mem_flatMap, List.mem_range, List.mem_map, i64v, ptc, flat1]; try (intros; simp [valsB, valB, flat1]); try decide))
      refine aw_r [(1, 2)] [(2, .slice (some ⟨2, 0, none⟩) h.length 0)] [(0, ⟨(ps.flatMap ptc), 27, true, 2⟩), (2, ⟨(h.flatMap ptc), 27, true, 2⟩)] [(2, .slice (some ⟨1, 0, none⟩) h.length 0)] [(0, ⟨(ps.flatMap ptc), 27, true, 2⟩), (1, ⟨(h.flatMap ptc), 27, true, 2⟩)] ?_ ⟨rfl, (.slice _ _ _ _ _ rfl), trivial⟩ ⟨rfl, ⟨rfl, rfl, rfl, (.flats (flats_pair _))⟩, rfl, ⟨rfl, rfl, rfl, (.flats (flats_pair _))⟩, trivial⟩
      refine aw_rt ?_
      refine then_ret ?_
      exact en_ret [.slice (some ⟨1, 0, none⟩) h.length 0] (by kernel_rfl)
    · have h2p : ¬ ((((ds.length : Nat) : Int) < 2)) := by first | (simpa using h2) | (have h2q := h2; simp at h2q; omega) | (have h2q := bx2 h2; simp at h2q; omega)
      refine aw_sk ?_
      refine then_normal ?_
      refine aw_p 255 (
        .a 1 3 <|
        .p (does_callB (x := .func 34) (ars := #[.const (.slice none 0 0), .tmp 30]) (ats := #[24, 24]) (g := 34) (vs := [.slice none 0 0, .slice (some ⟨2, 0, none⟩) ds.length 0]) (m := 1) (r := 1) (firsts := #[]) (caps := #[]) (args0 := [.slice none 0 0, .slice (some ⟨0, 0, none⟩) ds.length 0]) (pre0 := [(0, ⟨(ds.flatMap ptc), 27, true, 2⟩)]) (post0 := [(0, ⟨(ds.flatMap ptc), 27, true, 2⟩), (1, ⟨((Sp.chO ds).flatMap ptc), 27, true, 2⟩)]) (pre := [(2, ⟨(ds.flatMap ptc), 27, true, 2⟩)]) (post := [(2, ⟨(ds.flatMap ptc), 27, true, 2⟩), (3, ⟨((Sp.chO ds).flatMap ptc), 27, true, 2⟩)]) (v0 := .slice (some ⟨1, 0, none⟩) ((Sp.chO ds).length) 0) (v := .slice (some ⟨3, 0, none⟩) ((Sp.chO ds).length) 0) [2, 3] (by kernel_rfl) (by kernel_rfl) (by kernel_rfl) (by kernel_rfl) (chain_nil ds hfd (by omega) (by omega)) (.cons (.flatB (by kernel_rfl)) (.cons (.slice _ _ _ _ _ (by decide)) .nil)) ⟨rfl, ⟨rfl, rfl, rfl, (.flats (flats_pair _))⟩, trivial⟩ (by kernel_rfl) (by kernel_rfl) (by kernel_rfl) ⟨rfl, ⟨rfl, rfl, rfl, (.flats (flats_pair _))⟩, rfl, ⟨rfl, rfl, rfl, (.flats (flats_pair _))⟩, trivial⟩ (.slice _ _ _ _ _ (by decide))) <|
        .a 1 4 <| .nil _ _) ?_
      refine aw_p 511 (
        .a 1 4 <|
        .p (does_callB (x := .func 35) (ars := #[.tmp 32]) (ats := #[24]) (g := 35) (vs := [.slice (some ⟨2, 0, none⟩) ds.length 0]) (m := 1) (r := 0) (firsts := #[]) (caps := #[]) (args0 := [.slice (some ⟨0, 0, none⟩) ds.length 0]) (pre0 := [(0, ⟨(ds.flatMap ptc), 27, true, 2⟩)]) (post0 := [(0, ⟨(ds.reverse.flatMap ptc), 27, true, 2⟩)]) (pre := [(2, ⟨(ds.flatMap ptc), 27, true, 2⟩)]) (post := [(2, ⟨(ds.reverse.flatMap ptc), 27, true, 2⟩)]) (v0 := .tuple #[]) (v := .tuple #[]) [2] (by kernel_rfl) (by kernel_rfl) (by kernel_rfl) (by kernel_rfl) (rev_big ds (by omega) (by omega)) (.cons (.slice _ _ _ _ _ (by decide)) .nil) ⟨rfl, ⟨rfl, rfl, rfl, (.flats (flats_pair _))⟩, trivial⟩ (by kernel_rfl) (by kernel_rfl) (by kernel_rfl) ⟨rfl, ⟨rfl, rfl, rfl, (.flats (flats_pair _))⟩, trivial⟩ (.flatB (by kernel_rfl))) <| .nil _ _) ?_
      refine aw_w [(2, .slice none 0 0), (3, .slice (some ⟨2, 0, none⟩) ds.reverse.length 0), (6, .slice (some ⟨3, 0, none⟩) ((Sp.chO ds).length) 0)] [(0, ⟨(ps.flatMap ptc), 27, true, 2⟩), (2, ⟨(ds.reverse.flatMap ptc), 27, true, 2⟩), (3, ⟨((Sp.chO ds).flatMap ptc), 27, true, 2⟩)] ?_ (by (try rw [hrl]); kernel_rfl) (by (try rw [hrl]); kernel_rfl) (hc := (by simp [closedB, valsB, valB, List.all_eq_true, List.mem_flatMap, List.mem_range, List.mem_map, i64v, ptc, flat1]; try (intros; simp [valsB, valB, flat1]); try decide))
      refine aw_p 1023 (
        .a 2 4 <|
        .p (does_callB (x := .func 34) (ars := #[.tmp 34, .tmp 35]) (ats := #[24, 24]) (g := 34) (vs := [.slice (some ⟨3, 0, none⟩) ((Sp.chO ds).length) 0, .slice (some ⟨2, 0, none⟩) ds.reverse.length 0]) (m := 2) (r := 1) (firsts := #[]) (caps := #[]) (args0 := [.slice (some ⟨0, 0, none⟩) ((Sp.chO ds).length) 0, .slice (some ⟨1, 0, none⟩) ds.reverse.length 0]) (pre0 := [(0, ⟨((Sp.chO ds).flatMap ptc), 27, true, 2⟩), (1, ⟨(ds.reverse.flatMap ptc), 27, true, 2⟩)]) (post0 := [(1, ⟨(ds.reverse.flatMap ptc), 27, true, 2⟩), (2, ⟨(((Sp.chO ds) ++ Sp.chO ds.reverse).flatMap ptc), 27, true, 2⟩)]) (pre := [(3, ⟨((Sp.chO ds).flatMap ptc), 27, true, 2⟩), (2, ⟨(ds.reverse.flatMap ptc), 27, true, 2⟩)]) (post := [(2, ⟨(ds.reverse.flatMap ptc), 27, true, 2⟩), (4, ⟨(((Sp.chO ds) ++ Sp.chO ds.reverse).flatMap ptc), 27, true, 2⟩)]) (v0 := .slice (some ⟨2, 0, none⟩) (((Sp.chO ds) ++ Sp.chO ds.reverse).length) 0) (v := .slice (some ⟨4, 0, none⟩) (((Sp.chO ds) ++ Sp.chO ds.reverse).length) 0) [3, 2, 4] (by kernel_rfl) (by kernel_rfl) (by kernel_rfl) (by kernel_rfl) (chain_app (Sp.chO ds) ds.reverse hfc hfr (by omega) hzc (by omega)) (.cons (.slice _ _ _ _ _ (by decide)) (.cons (.slice _ _ _ _ _ (by decide)) .nil)) ⟨rfl, ⟨rfl, rfl, rfl, (.flats (flats_pair _))⟩, rfl, ⟨rfl, rfl, rfl, (.flats (flats_pair _))⟩, trivial⟩ (by kernel_rfl) (by kernel_rfl) (by kernel_rfl) ⟨rfl, ⟨rfl, rfl, rfl, (.flats (flats_pair _))⟩, rfl, ⟨rfl, rfl, rfl, (.flats (flats_pair _))⟩, trivial⟩ (.slice _ _ _ _ _ (by decide))) <|
        .a 1 5 <| .nil _ _) ?_
      have hhe : h = Sp.chO ds ++ Sp.chO ds.reverse := hh.symm.trans (Sp.hullF_long hss hds (by omega))
      refine aw_w [(2, .slice (some ⟨4, 0, none⟩) h.length 0)] [(0, ⟨(ps.flatMap ptc), 27, true, 2⟩), (4, ⟨(h.flatMap ptc), 27, true, 2⟩)] ?_ (by rw [hhe]; kernel_rfl) (by rw [hhe]; kernel_rfl) (hc := (by simp [closedB, valsB, valB, List.all_eq_true, List.mem_flatMap, List.mem_range, List.mem_map, i64v, ptc, flat1]; try (intros; simp [valsB, valB, flat1]); try decide))
      refine aw_r [(1, 4)] [(2, .slice (some ⟨4, 0, none⟩) h.length 0)] [(0, ⟨(ps.flatMap ptc), 27, true, 2⟩), (4, ⟨(h.flatMap ptc), 27, true, 2⟩)] [(2, .slice (some ⟨1, 0, none⟩) h.length 0)] [(0, ⟨(ps.flatMap ptc), 27, true, 2⟩), (1, ⟨(h.flatMap ptc), 27, true, 2⟩)] ?_ ⟨rfl, (.slice _ _ _ _ _ rfl), trivial⟩ ⟨rfl, ⟨rfl, rfl, rfl, (.flats (flats_pair _))⟩, rfl, ⟨rfl, rfl, rfl, (.flats (flats_pair _))⟩, trivial⟩
      refine aw_rt ?_
      exact en_ret [.slice (some ⟨1, 0, none⟩) h.length 0] (by kernel_rfl)
theorem hull_ro (ps h : List (Int × Int)) (hh : Sp.hullF (ps.map Sp.lmP) = h) (h1 : 1 ≤ ps.length) (hz : ps.length ≤ 8796093021952) : AC Try.prog 9 1 [.slice (some ⟨0, 0, none⟩) ps.length 0] [(0, ⟨(ps.flatMap ptc), 27, false, 2⟩)] (.slice (some ⟨1, 0, none⟩) h.length 0) [(1, ⟨(h.flatMap ptc), 27, true, 2⟩)] := hullof_ro ps _ _ _ h rfl rfl rfl hh h1 hz
theorem hull_own (ps h : List (Int × Int)) (hh : Sp.hullF (ps.map Sp.lmP) = h) (h1 : 1 ≤ ps.length) (hz : ps.length ≤ 8796093021952) : AC Try.prog 9 1 [.slice (some ⟨0, 0, none⟩) ps.length 0] [(0, ⟨(ps.flatMap ptc), 27, true, 2⟩)] (.slice (some ⟨1, 0, none⟩) h.length 0) [(0, ⟨(ps.flatMap ptc), 27, true, 2⟩), (1, ⟨(h.flatMap ptc), 27, true, 2⟩)] := hullof_own ps _ _ _ h rfl rfl rfl hh h1 hz
end Go.Proofs.Ytomnkdlfmjdckaa.Am
