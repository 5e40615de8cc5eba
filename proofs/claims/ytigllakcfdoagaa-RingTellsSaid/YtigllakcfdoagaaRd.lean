/-
  The walk of the document's check of a ring.
-/
import Derived.Test.YtigllakcfdoagaaProg
import Derived.Test.YtigllakcfdoagaaAm16
import Derived.Test.YtigllakcfdoagaaRg8
import Derived.Test.YtigllakcfdoagaaAm19
import Derived.Test.YtigllakcfdoagaaSg8
import Derived.Test.YtigllakcfdoagaaPt2
namespace Go.Proofs.Ytigllakcfdoagaa.Am
open Go Go.Proofs
set_option maxRecDepth 100000
set_option maxHeartbeats 4000000
set_option linter.unusedVariables false
set_option linter.unusedSimpArgs false

theorem rg_ro (ps : List (Int × Int)) (hz : ps.length ≤ 9223372036854775807) :
    AC Try.prog 55 1 ([.slice (some ⟨0, 0, none⟩) ps.length 0]) [(0, ⟨(ps.flatMap ptc), 24, false, 2⟩)] (.int .i64 (Sp.chkF ps)) [] := by
  refine ac_in Try.func55 (fun w0 W pin => ?_)
  refine aw_p 3 (
    .a 1 1 <| .nil _ _) ?_
  refine aw_p 7 (
    .a 3 1 <| .nil _ _) ?_
  refine aw_sq 14 15 ?_
  refine aw_p 29 (
    .a 2 1 <| .nil _ _) ?_
  refine aw_cd 58 59 (decide (((ps.length : Nat) : Int) > 200)) (fun h1 => ?_) (fun h1 => ?_)
  · have h1p : ((((ps.length : Nat) : Int) > 200)) := by first | (simpa using h1) | (have h1q := h1; simp at h1q; omega) | (have h1q := bx1 h1; simp at h1q; omega)
    refine aw_p 117 (
      .a 1 1 <| .nil _ _) ?_
    refine aw_rt ?_
    refine then_ret ?_
    exact en_ret [.int .i64 2] (show (.int .i64 2 : Value) = (.int .i64 (Sp.chkF ps)) from (congrArg (Value.int .i64) (show 2 = (Sp.chkF ps) from by (first | exact (Sp.chk_2 (by assumption)).symm | exact (Sp.chk_3 (by assumption) (by assumption)).symm | exact (Sp.chk_1 (by assumption) (by assumption) (Sp.any_yes hil (by assumption))).symm | exact (Sp.rg_10 (by assumption) (by assumption) hnok (Sp.allrg_no1 hul hu2 (by assumption))).symm | exact (Sp.rg_10 (by assumption) (by assumption) hnok (Sp.allrg_no2 hul hk.1 hkl hu2 hk2 (by unfold Sp.wantN; first | (rw [if_pos (by omega)]; done) | (rw [if_neg (by omega)]; done)) (by assumption))).symm | exact (Sp.rg_0 (by assumption) (by assumption) hnok hge ha).symm))))
  · have h1p : ¬ ((((ps.length : Nat) : Int) > 200)) := by first | (simpa using h1) | (have h1q := h1; simp at h1q; omega) | (have h1q := bx2 h1; simp at h1q; omega)
    refine aw_sk ?_
    refine then_normal ?_
    refine aw_sq 30 31 ?_
    refine aw_p 61 (
      .a 2 1 <| .nil _ _) ?_
    refine aw_cd 122 123 (decide (((ps.length : Nat) : Int) < 3)) (fun h2 => ?_) (fun h2 => ?_)
    · have h2p : ((((ps.length : Nat) : Int) < 3)) := by first | (simpa using h2) | (have h2q := h2; simp at h2q; omega) | (have h2q := bx1 h2; simp at h2q; omega)
      refine aw_p 245 (
        .a 1 1 <| .nil _ _) ?_
      refine aw_rt ?_
      refine then_ret ?_
      exact en_ret [.int .i64 3] (show (.int .i64 3 : Value) = (.int .i64 (Sp.chkF ps)) from (congrArg (Value.int .i64) (show 3 = (Sp.chkF ps) from by (first | exact (Sp.chk_2 (by assumption)).symm | exact (Sp.chk_3 (by assumption) (by assumption)).symm | exact (Sp.chk_1 (by assumption) (by assumption) (Sp.any_yes hil (by assumption))).symm | exact (Sp.rg_10 (by assumption) (by assumption) hnok (Sp.allrg_no1 hul hu2 (by assumption))).symm | exact (Sp.rg_10 (by assumption) (by assumption) hnok (Sp.allrg_no2 hul hk.1 hkl hu2 hk2 (by unfold Sp.wantN; first | (rw [if_pos (by omega)]; done) | (rw [if_neg (by omega)]; done)) (by assumption))).symm | exact (Sp.rg_0 (by assumption) (by assumption) hnok hge ha).symm))))
    · have h2p : ¬ ((((ps.length : Nat) : Int) < 3)) := by first | (simpa using h2) | (have h2q := h2; simp at h2q; omega) | (have h2q := bx2 h2; simp at h2q; omega)
      refine aw_sk ?_
      refine then_normal ?_
      refine aw_sq 62 63 ?_
      refine aw_p 125 (
        .a 3 1 <| .nil _ _) ?_
      refine aw_bl 0 251 ?_
      refine aw_lp 503 ?_
      refine al_w [(0, .slice (some ⟨0, 0, none⟩) ps.length 0), (3, .int .i64 ((ps.length : Nat) : Int)), (17, .slice (some ⟨0, 0, none⟩) ps.length 0), (18, .int .i64 ((ps.length : Nat) : Int)), (19, .int .i64 ((0 : Nat) : Int))] [(0, ⟨(ps.flatMap ptc), 24, false, 2⟩)] ?_ (hc := (by simp [closedB, valsB, valB, List.all_eq_true, List.mem_flatMap, List.mem_range, List.mem_map, i64v, ptc, flat1]; try (intros; simp [valsB, valB, flat1]); try decide))
      refine al_ind (fun i : Nat => (fun (i : Nat) => mkSt 1 [(0, .slice (some ⟨0, 0, none⟩) ps.length 0), (3, .int .i64 ((ps.length : Nat) : Int)), (17, .slice (some ⟨0, 0, none⟩) ps.length 0), (18, .int .i64 ((ps.length : Nat) : Int)), (19, .int .i64 ((i : Nat) : Int))] [(0, ⟨(ps.flatMap ptc), 24, false, 2⟩)]) i) (fun i : Nat => (fun (i : Nat) => (i ≤ ps.length) ∧ ((ps.take i).any Sp.nok = false)) i) (fun i : Nat => (fun (i : Nat) => ps.length - i) i) (fun i hi1 ih1 => ?_) 0 (show (0 ≤ ps.length) ∧ ((ps.take 0).any Sp.nok = false) from ⟨by omega, by rfl⟩)
      obtain ⟨i, hv1⟩ : ∃ z, z = i := ⟨i, rfl⟩; subst hv1
      have hi1' : (i ≤ ps.length) ∧ ((ps.take i).any Sp.nok = false) := hi1
      obtain ⟨hi, ha⟩ := hi1'
      show AL _ _ _ (mkSt 1 [(0, .slice (some ⟨0, 0, none⟩) ps.length 0), (3, .int .i64 ((ps.length : Nat) : Int)), (17, .slice (some ⟨0, 0, none⟩) ps.length 0), (18, .int .i64 ((ps.length : Nat) : Int)), (19, .int .i64 ((i : Nat) : Int))] [(0, ⟨(ps.flatMap ptc), 24, false, 2⟩)]) _
      refine al_round ?_
      refine aw_p 1007 (
        .a 1 1 <| .nil _ _) ?_
      refine aw_sq 2014 2015 ?_
      refine aw_cd 4028 4029 (decide (((i : Nat) : Int) < ((ps.length : Nat) : Int))) (fun h3 => ?_) (fun h3 => ?_)
      · have h3p : ((((i : Nat) : Int) < ((ps.length : Nat) : Int))) := by first | (simpa using h3) | (have h3q := h3; simp at h3q; omega) | (have h3q := bx1 h3; simp at h3q; omega)
        have hil : i < ps.length := by omega
        refine aw_sk ?_
        refine then_normal ?_
        refine aw_sq 4030 4031 ?_
        refine aw_bl 1 8061 ?_
        refine aw_p 16123 (
          .p (does_indexSlice (t := 37) (x := .tmp 17) (y := .tmp 19) (k := 0) (off := 0) (n := ps.length) (c := 0) (z := 2) (kd := .i64) (j := ((i : Nat) : Int)) (by kernel_rfl) (by kernel_rfl) (by kernel_rfl) (by kernel_rfl) (by kernel_rfl) (by omega) (by omega)) <|
          .p (does_load (t := 24) (x := .tmp 21) (k := 0) (off := (0 + (((i : Nat) : Int)).toNat * 2)) (b := ⟨(ps.flatMap ptc), 24, false, 2⟩) (v := .agg #[.int .i64 ((ps.getD i (0, 0)).1), .int .i64 ((ps.getD i (0, 0)).2)]) (by kernel_rfl) (by kernel_rfl) (by kernel_rfl) (ldV_pair (j := i) (by kernel_rfl) (by kernel_rfl) (by omega) (by omega))) <|
          .a 2 1 <| .nil _ _) ?_
        refine aw_p 32247 (
          .a 1 2 <| .p (does_c ((by have h := risvalid_ok ((ps.getD i (0, 0)).1) ((ps.getD i (0, 0)).2); exact h))) <| .a 1 2 <| .nil _ _) ?_
        refine aw_cd 64494 64495 (!(Sp.okb ((ps.getD i (0, 0)).1) ((ps.getD i (0, 0)).2))) (fun h4 => ?_) (fun h4 => ?_)
        · refine aw_p 128989 (
            .a 1 2 <| .nil _ _) ?_
          refine aw_rt ?_
          refine block_ret ?_
          refine then_ret ?_
          refine then_ret ?_
          refine block_ret ?_
          refine then_ret ?_
          exact en_ret [.int .i64 1] (show (.int .i64 1 : Value) = (.int .i64 (Sp.chkF ps)) from (congrArg (Value.int .i64) (show 1 = (Sp.chkF ps) from by (first | exact (Sp.chk_2 (by assumption)).symm | exact (Sp.chk_3 (by assumption) (by assumption)).symm | exact (Sp.chk_1 (by assumption) (by assumption) (Sp.any_yes hil (by assumption))).symm | exact (Sp.rg_10 (by assumption) (by assumption) hnok (Sp.allrg_no1 hul hu2 (by assumption))).symm | exact (Sp.rg_10 (by assumption) (by assumption) hnok (Sp.allrg_no2 hul hk.1 hkl hu2 hk2 (by unfold Sp.wantN; first | (rw [if_pos (by omega)]; done) | (rw [if_neg (by omega)]; done)) (by assumption))).symm | exact (Sp.rg_0 (by assumption) (by assumption) hnok hge ha).symm))))
        · refine aw_sk ?_
          refine block_normal ?_
          refine then_normal ?_
          refine aw_p1 (
            .p (does_i (((i : Nat) : Int) + 1) (wrap_i64 (by omega) (by omega)) .i64) <| .a 1 2 <| .nil _ _) ?_
          refine then_normal ?_
          refine al_w [(0, .slice (some ⟨0, 0, none⟩) ps.length 0), (3, .int .i64 ((ps.length : Nat) : Int)), (17, .slice (some ⟨0, 0, none⟩) ps.length 0), (18, .int .i64 ((ps.length : Nat) : Int)), (19, .int .i64 (((i + 1) : Nat) : Int))] [(0, ⟨(ps.flatMap ptc), 24, false, 2⟩)] ?_ (hc := (by simp [closedB, valsB, valB, List.all_eq_true, List.mem_flatMap, List.mem_range, List.mem_map, i64v, ptc, flat1]; try (intros; simp [valsB, valB, flat1]); try decide))
          exact ih1 (i + 1) (show ((i + 1) ≤ ps.length) ∧ ((ps.take (i + 1)).any Sp.nok = false) from ⟨by omega, by (exact Sp.any_next ha hil (by assumption))⟩) (show ps.length - (i + 1) < ps.length - i from by omega)
      · have h3p : ¬ ((((i : Nat) : Int) < ((ps.length : Nat) : Int))) := by first | (simpa using h3) | (have h3q := h3; simp at h3q; omega) | (have h3q := bx2 h3; simp at h3q; omega)
        have hnok : ps.any Sp.nok = false := Sp.any_all (by omega) ha
        refine aw_ex 0 ?_
        refine then_exit ?_
        refine then_exit ?_
        refine block_exit ?_
        refine then_normal ?_
        refine aw_sq 126 127 ?_
        refine aw_p 253 (
          .a 2 1 <| .nil _ _) ?_
        refine aw_bl 2 507 ?_
        refine aw_lp 1015 ?_
        refine al_w [(0, .slice (some ⟨0, 0, none⟩) ps.length 0), (3, .int .i64 ((ps.length : Nat) : Int)), (27, .int .i64 ((ps.length : Nat) : Int)), (28, .int .i64 ((0 : Nat) : Int))] [(0, ⟨(ps.flatMap ptc), 24, false, 2⟩)] ?_ (hc := (by simp [closedB, valsB, valB, List.all_eq_true, List.mem_flatMap, List.mem_range, List.mem_map, i64v, ptc, flat1]; try (intros; simp [valsB, valB, flat1]); try decide))
        refine al_ind (fun i : Nat => (fun (u : Nat) => mkSt 1 [(0, .slice (some ⟨0, 0, none⟩) ps.length 0), (3, .int .i64 ((ps.length : Nat) : Int)), (27, .int .i64 ((ps.length : Nat) : Int)), (28, .int .i64 ((u : Nat) : Int))] [(0, ⟨(ps.flatMap ptc), 24, false, 2⟩)]) i) (fun i : Nat => (fun (u : Nat) => (u ≤ ps.length) ∧ (Sp.allrg ps u = true)) i) (fun i : Nat => (fun (u : Nat) => ps.length - u) i) (fun i hi2 ih2 => ?_) 0 (show (0 ≤ ps.length) ∧ (Sp.allrg ps 0 = true) from ⟨by omega, by rfl⟩)
        obtain ⟨u, hv2⟩ : ∃ z, z = i := ⟨i, rfl⟩; subst hv2
        have hi2' : (u ≤ ps.length) ∧ (Sp.allrg ps u = true) := hi2
        obtain ⟨hi, ha⟩ := hi2'
        show AL _ _ _ (mkSt 1 [(0, .slice (some ⟨0, 0, none⟩) ps.length 0), (3, .int .i64 ((ps.length : Nat) : Int)), (27, .int .i64 ((ps.length : Nat) : Int)), (28, .int .i64 ((u : Nat) : Int))] [(0, ⟨(ps.flatMap ptc), 24, false, 2⟩)]) _
        refine al_round ?_
        refine aw_p 2031 (
          .a 1 1 <| .nil _ _) ?_
        refine aw_sq 4062 4063 ?_
        refine aw_cd 8124 8125 (decide (((u : Nat) : Int) < ((ps.length : Nat) : Int))) (fun h5 => ?_) (fun h5 => ?_)
        · have h5p : ((((u : Nat) : Int) < ((ps.length : Nat) : Int))) := by first | (simpa using h5) | (have h5q := h5; simp at h5q; omega) | (have h5q := bx1 h5; simp at h5q; omega)
          have hul : u < ps.length := by omega
          obtain ⟨u2, hu2⟩ : ∃ j, (u + 1) % ps.length = j := ⟨_, rfl⟩; have hu2l : u2 < ps.length := hu2 ▸ Nat.mod_lt _ (by omega)
          refine aw_sk ?_
          refine then_normal ?_
          refine aw_sq 8126 8127 ?_
          refine aw_bl 3 16253 ?_
          refine aw_p 32507 (
            .a 2 1 <| .nil _ _) ?_
          refine aw_d 65015 (
            .a 2 1 <| .p (does_indexSlice (t := 37) (x := .tmp 31) (y := .tmp 32) (k := 0) (off := 0) (n := ps.length) (c := 0) (z := 2) (kd := .i64) (j := ((u : Nat) : Int)) (by kernel_rfl) (by kernel_rfl) (by kernel_rfl) (by kernel_rfl) (by kernel_rfl) (by omega) (by omega)) <|
            .p (does_load (t := 24) (x := .tmp 33) (k := 0) (off := (0 + (((u : Nat) : Int)).toNat * 2)) (b := ⟨(ps.flatMap ptc), 24, false, 2⟩) (v := .agg #[.int .i64 ((ps.getD u (0, 0)).1), .int .i64 ((ps.getD u (0, 0)).2)]) (by kernel_rfl) (by kernel_rfl) (by kernel_rfl) (ldV_pair (j := u) (by kernel_rfl) (by kernel_rfl) (by omega) (by omega))) <|
            .a 2 1 <| .p (does_i (((u : Nat) : Int) + 1) (wrap_i64 (by omega) (by omega)) .i64) <| .a 1 1 <|
            .p (does_int (n' := ((u2 : Nat) : Int)) (does_rem (t := 3) (t2 := 3) (x := .tmp 37) (y := .tmp 38) (k := .i64) (a := (((u : Nat) : Int) + 1)) (b := ((ps.length : Nat) : Int)) (by kernel_rfl) (by kernel_rfl) (by kernel_rfl) (by omega)) ((show (Int.tmod (((u : Nat) : Int) + 1) ((ps.length : Nat) : Int)) = ((u2 : Nat) : Int) from (by rw [← hu2]; exact rfl)))) <|
            .p (does_indexSlice (t := 37) (x := .tmp 35) (y := .tmp 39) (k := 0) (off := 0) (n := ps.length) (c := 0) (z := 2) (kd := .i64) (j := ((u2 : Nat) : Int)) (by kernel_rfl) (by kernel_rfl) (by kernel_rfl) (by kernel_rfl) (by kernel_rfl) (by omega) (by omega)) <|
            .p (does_load (t := 24) (x := .tmp 40) (k := 0) (off := (0 + (((u2 : Nat) : Int)).toNat * 2)) (b := ⟨(ps.flatMap ptc), 24, false, 2⟩) (v := .agg #[.int .i64 ((ps.getD u2 (0, 0)).1), .int .i64 ((ps.getD u2 (0, 0)).2)]) (by kernel_rfl) (by kernel_rfl) (by kernel_rfl) (ldV_pair (j := u2) (by kernel_rfl) (by kernel_rfl) (by omega) (by omega))) <|
            .a 4 1 <| .nil _ _) ?_
          refine aw_sq 130030 130031 ?_
          refine aw_p 260061 (
            .a 2 3 <| .p (does_e ((((ps.getD u (0, 0)).1) == ((ps.getD u2 (0, 0)).1)) && ((((ps.getD u (0, 0)).2) == ((ps.getD u2 (0, 0)).2)) && true)) (rfl)) <| .nil _ _) ?_
          refine aw_cd 520122 520123 ((((ps.getD u (0, 0)).1) == ((ps.getD u2 (0, 0)).1)) && ((((ps.getD u (0, 0)).2) == ((ps.getD u2 (0, 0)).2)) && true)) (fun h6 => ?_) (fun h6 => ?_)
          · have h6p : ((((ps.getD u (0, 0)).1) = ((ps.getD u2 (0, 0)).1) ∧ ((ps.getD u (0, 0)).2) = ((ps.getD u2 (0, 0)).2))) := by first | (simpa using h6) | (have h6q := h6; simp at h6q; omega) | (have h6q := bx1 h6; simp at h6q; omega)
            refine aw_p 1040245 (
              .a 1 3 <| .nil _ _) ?_
            refine aw_rt ?_
            refine then_ret ?_
            refine block_ret ?_
            refine then_ret ?_
            refine then_ret ?_
            refine block_ret ?_
            refine then_ret ?_
            exact en_ret [.int .i64 10] (show (.int .i64 10 : Value) = (.int .i64 (Sp.chkF ps)) from (congrArg (Value.int .i64) (show 10 = (Sp.chkF ps) from by (first | exact (Sp.chk_2 (by assumption)).symm | exact (Sp.chk_3 (by assumption) (by assumption)).symm | exact (Sp.chk_1 (by assumption) (by assumption) (Sp.any_yes hil (by assumption))).symm | exact (Sp.rg_10 (by assumption) (by assumption) hnok (Sp.allrg_no1 hul hu2 (by assumption))).symm | exact (Sp.rg_10 (by assumption) (by assumption) hnok (Sp.allrg_no2 hul hk.1 hkl hu2 hk2 (by unfold Sp.wantN; first | (rw [if_pos (by omega)]; done) | (rw [if_neg (by omega)]; done)) (by assumption))).symm | exact (Sp.rg_0 (by assumption) (by assumption) hnok hge ha).symm))))
          · have h6p : ¬ ((((ps.getD u (0, 0)).1) = ((ps.getD u2 (0, 0)).1) ∧ ((ps.getD u (0, 0)).2) = ((ps.getD u2 (0, 0)).2))) := by first | (simpa using h6) | (have h6q := h6; simp at h6q; omega) | (have h6q := bx2 h6; simp at h6q; omega)
            refine aw_sk ?_
            refine then_normal ?_
            refine aw_p 260063 (
              .a 1 3 <| .p (does_i (((u : Nat) : Int) + 1) (wrap_i64 (by omega) (by omega)) .i64) <| .a 1 3 <| .nil _ _) ?_
            refine aw_bl 4 520127 ?_
            refine aw_lp 1040255 ?_
            refine al_w [(0, .slice (some ⟨0, 0, none⟩) ps.length 0), (3, .int .i64 ((ps.length : Nat) : Int)), (6, .int .i64 ((u : Nat) : Int)), (7, .pointer (some ⟨1, 0, none⟩)), (8, .pointer (some ⟨2, 0, none⟩)), (9, .int .i64 (((u + 1) : Nat) : Int)), (27, .int .i64 ((ps.length : Nat) : Int)), (28, .int .i64 ((u : Nat) : Int))] [(0, ⟨(ps.flatMap ptc), 24, false, 2⟩), (1, ⟨[.int .i64 ((ps.getD u (0, 0)).1), .int .i64 ((ps.getD u (0, 0)).2)], 24, true, 2⟩), (2, ⟨[.int .i64 ((ps.getD u2 (0, 0)).1), .int .i64 ((ps.getD u2 (0, 0)).2)], 24, true, 2⟩)] ?_ (hc := (by simp [closedB, valsB, valB, List.all_eq_true, List.mem_flatMap, List.mem_range, List.mem_map, i64v, ptc, flat1]; try (intros; simp [valsB, valB, flat1]); try decide))
            refine al_ind (fun i : Nat => (fun (k : Nat) => mkSt 1 [(0, .slice (some ⟨0, 0, none⟩) ps.length 0), (3, .int .i64 ((ps.length : Nat) : Int)), (6, .int .i64 ((u : Nat) : Int)), (7, .pointer (some ⟨1, 0, none⟩)), (8, .pointer (some ⟨2, 0, none⟩)), (9, .int .i64 ((k : Nat) : Int)), (27, .int .i64 ((ps.length : Nat) : Int)), (28, .int .i64 ((u : Nat) : Int))] [(0, ⟨(ps.flatMap ptc), 24, false, 2⟩), (1, ⟨[.int .i64 ((ps.getD u (0, 0)).1), .int .i64 ((ps.getD u (0, 0)).2)], 24, true, 2⟩), (2, ⟨[.int .i64 ((ps.getD u2 (0, 0)).1), .int .i64 ((ps.getD u2 (0, 0)).2)], 24, true, 2⟩)]) i) (fun i : Nat => (fun (k : Nat) => (u + 1 ≤ k ∧ k ≤ ps.length) ∧ (Sp.rgRow ps u k = true)) i) (fun i : Nat => (fun (k : Nat) => ps.length - k) i) (fun i hi3 ih3 => ?_) (u + 1) (show (u + 1 ≤ (u + 1) ∧ (u + 1) ≤ ps.length) ∧ (Sp.rgRow ps u (u + 1) = true) from ⟨by omega, by (exact Sp.rgRow_0 _ _)⟩)
            obtain ⟨k, hv3⟩ : ∃ z, z = i := ⟨i, rfl⟩; subst hv3
            have hi3' : (u + 1 ≤ k ∧ k ≤ ps.length) ∧ (Sp.rgRow ps u k = true) := hi3
            obtain ⟨hk, hb⟩ := hi3'
            show AL _ _ _ (mkSt 1 [(0, .slice (some ⟨0, 0, none⟩) ps.length 0), (3, .int .i64 ((ps.length : Nat) : Int)), (6, .int .i64 ((u : Nat) : Int)), (7, .pointer (some ⟨1, 0, none⟩)), (8, .pointer (some ⟨2, 0, none⟩)), (9, .int .i64 ((k : Nat) : Int)), (27, .int .i64 ((ps.length : Nat) : Int)), (28, .int .i64 ((u : Nat) : Int))] [(0, ⟨(ps.flatMap ptc), 24, false, 2⟩), (1, ⟨[.int .i64 ((ps.getD u (0, 0)).1), .int .i64 ((ps.getD u (0, 0)).2)], 24, true, 2⟩), (2, ⟨[.int .i64 ((ps.getD u2 (0, 0)).1), .int .i64 ((ps.getD u2 (0, 0)).2)], 24, true, 2⟩)]) _
            refine al_round ?_
            refine aw_sq 2080510 2080511 ?_
            refine aw_p 4161021 (
              .a 3 3 <| .nil _ _) ?_
            refine aw_cd 8322042 8322043 (decide (((k : Nat) : Int) < ((ps.length : Nat) : Int))) (fun h7 => ?_) (fun h7 => ?_)
            · have h7p : ((((k : Nat) : Int) < ((ps.length : Nat) : Int))) := by first | (simpa using h7) | (have h7q := h7; simp at h7q; omega) | (have h7q := bx1 h7; simp at h7q; omega)
              have hkl : k < ps.length := by omega
              obtain ⟨k2, hk2⟩ : ∃ j, (k + 1) % ps.length = j := ⟨_, rfl⟩; have hk2l : k2 < ps.length := hk2 ▸ Nat.mod_lt _ (by omega)
              refine aw_sk ?_
              refine then_normal ?_
              refine aw_sq 4161022 4161023 ?_
              refine aw_bl 5 8322045 ?_
              refine aw_p 16644091 (
                .a 1 3 <| .nil _ _) ?_
              refine aw_sq 33288182 33288183 ?_
              rcases Bool.eq_false_or_eq_true (((k : Nat) : Int) == (((u : Nat) : Int) + 1)) with h8 | h8
              · have h8p : ((((k : Nat) : Int) = (((u : Nat) : Int) + 1))) := by first | (simpa using h8) | (have h8q := h8; simp at h8q; omega) | (have h8q := bx1 h8; simp at h8q; omega)
                refine aw_p 66576365 (
                  .a 2 3 <| .p (does_i (((u : Nat) : Int) + 1) (wrap_i64 (by omega) (by omega)) .i64) <| .p (does_b true (h8)) <| .a 10 3 <| .nil _ _) ?_
                refine aw_tr 133152730 ?_
                refine aw_p1 (
                  .a 1 3 <| .nil _ _) ?_
                refine then_normal ?_
                refine aw_d 66576367 (
                  .a 4 3 <| .p (does_indexSlice (t := 37) (x := .tmp 68) (y := .tmp 69) (k := 0) (off := 0) (n := ps.length) (c := 0) (z := 2) (kd := .i64) (j := ((k : Nat) : Int)) (by kernel_rfl) (by kernel_rfl) (by kernel_rfl) (by kernel_rfl) (by kernel_rfl) (by omega) (by omega)) <|
                  .p (does_load (t := 24) (x := .tmp 70) (k := 0) (off := (0 + (((k : Nat) : Int)).toNat * 2)) (b := ⟨(ps.flatMap ptc), 24, false, 2⟩) (v := .agg #[.int .i64 ((ps.getD k (0, 0)).1), .int .i64 ((ps.getD k (0, 0)).2)]) (by kernel_rfl) (by kernel_rfl) (by kernel_rfl) (ldV_pair (j := k) (by kernel_rfl) (by kernel_rfl) (by omega) (by omega))) <|
                  .a 2 3 <| .p (does_i (((k : Nat) : Int) + 1) (wrap_i64 (by omega) (by omega)) .i64) <| .a 1 3 <|
                  .p (does_int (n' := ((k2 : Nat) : Int)) (does_rem (t := 3) (t2 := 3) (x := .tmp 74) (y := .tmp 75) (k := .i64) (a := (((k : Nat) : Int) + 1)) (b := ((ps.length : Nat) : Int)) (by kernel_rfl) (by kernel_rfl) (by kernel_rfl) (by omega)) ((show (Int.tmod (((k : Nat) : Int) + 1) ((ps.length : Nat) : Int)) = ((k2 : Nat) : Int) from (by rw [← hk2]; exact rfl)))) <|
                  .p (does_indexSlice (t := 37) (x := .tmp 72) (y := .tmp 76) (k := 0) (off := 0) (n := ps.length) (c := 0) (z := 2) (kd := .i64) (j := ((k2 : Nat) : Int)) (by kernel_rfl) (by kernel_rfl) (by kernel_rfl) (by kernel_rfl) (by kernel_rfl) (by omega) (by omega)) <|
                  .p (does_load (t := 24) (x := .tmp 77) (k := 0) (off := (0 + (((k2 : Nat) : Int)).toNat * 2)) (b := ⟨(ps.flatMap ptc), 24, false, 2⟩) (v := .agg #[.int .i64 ((ps.getD k2 (0, 0)).1), .int .i64 ((ps.getD k2 (0, 0)).2)]) (by kernel_rfl) (by kernel_rfl) (by kernel_rfl) (ldV_pair (j := k2) (by kernel_rfl) (by kernel_rfl) (by omega) (by omega))) <|
                  .p (does_c (rshared_any ((ps.getD u (0, 0)).1) ((ps.getD u (0, 0)).2) ((ps.getD u2 (0, 0)).1) ((ps.getD u2 (0, 0)).2) ((ps.getD k (0, 0)).1) ((ps.getD k (0, 0)).2) ((ps.getD k2 (0, 0)).1) ((ps.getD k2 (0, 0)).2))) <| .a 2 3 <| .nil _ _) ?_
                refine aw_cd 133152734 133152735 ((Sp.meetN (Sp.lim 1048576 ((ps.getD u (0, 0)).1)) (Sp.lim 1048576 ((ps.getD u (0, 0)).2)) (Sp.lim 1048576 ((ps.getD u2 (0, 0)).1)) (Sp.lim 1048576 ((ps.getD u2 (0, 0)).2)) (Sp.lim 1048576 ((ps.getD k (0, 0)).1)) (Sp.lim 1048576 ((ps.getD k (0, 0)).2)) (Sp.lim 1048576 ((ps.getD k2 (0, 0)).1)) (Sp.lim 1048576 ((ps.getD k2 (0, 0)).2))) != 1) (fun h10 => ?_) (fun h10 => ?_)
                · have h10p : (¬ ((Sp.meetN (Sp.lim 1048576 ((ps.getD u (0, 0)).1)) (Sp.lim 1048576 ((ps.getD u (0, 0)).2)) (Sp.lim 1048576 ((ps.getD u2 (0, 0)).1)) (Sp.lim 1048576 ((ps.getD u2 (0, 0)).2)) (Sp.lim 1048576 ((ps.getD k (0, 0)).1)) (Sp.lim 1048576 ((ps.getD k (0, 0)).2)) (Sp.lim 1048576 ((ps.getD k2 (0, 0)).1)) (Sp.lim 1048576 ((ps.getD k2 (0, 0)).2))) = 1)) := by first | (simpa using h10) | (have h10q := h10; simp at h10q; omega) | (have h10q := bx1 h10; simp at h10q; omega)
                  refine aw_p 266305469 (
                    .a 1 3 <| .nil _ _) ?_
                  refine aw_rt ?_
                  refine block_ret ?_
                  refine then_ret ?_
                  refine then_ret ?_
                  refine block_ret ?_
                  refine block_ret ?_
                  refine then_ret ?_
                  refine then_ret ?_
                  refine block_ret ?_
                  refine then_ret ?_
                  exact en_ret [.int .i64 10] (show (.int .i64 10 : Value) = (.int .i64 (Sp.chkF ps)) from (congrArg (Value.int .i64) (show 10 = (Sp.chkF ps) from by (first | exact (Sp.chk_2 (by assumption)).symm | exact (Sp.chk_3 (by assumption) (by assumption)).symm | exact (Sp.chk_1 (by assumption) (by assumption) (Sp.any_yes hil (by assumption))).symm | exact (Sp.rg_10 (by assumption) (by assumption) hnok (Sp.allrg_no1 hul hu2 (by assumption))).symm | exact (Sp.rg_10 (by assumption) (by assumption) hnok (Sp.allrg_no2 hul hk.1 hkl hu2 hk2 (by unfold Sp.wantN; first | (rw [if_pos (by omega)]; done) | (rw [if_neg (by omega)]; done)) (by assumption))).symm | exact (Sp.rg_0 (by assumption) (by assumption) hnok hge ha).symm))))
                · have h10p : ¬ (¬ ((Sp.meetN (Sp.lim 1048576 ((ps.getD u (0, 0)).1)) (Sp.lim 1048576 ((ps.getD u (0, 0)).2)) (Sp.lim 1048576 ((ps.getD u2 (0, 0)).1)) (Sp.lim 1048576 ((ps.getD u2 (0, 0)).2)) (Sp.lim 1048576 ((ps.getD k (0, 0)).1)) (Sp.lim 1048576 ((ps.getD k (0, 0)).2)) (Sp.lim 1048576 ((ps.getD k2 (0, 0)).1)) (Sp.lim 1048576 ((ps.getD k2 (0, 0)).2))) = 1)) := by first | (simpa using h10) | (have h10q := h10; simp at h10q; omega) | (have h10q := bx2 h10; simp at h10q; omega)
                  refine aw_sk ?_
                  refine block_normal ?_
                  refine then_normal ?_
                  refine aw_p1 (
                    .a 1 3 <| .p (does_i (((k : Nat) : Int) + 1) (wrap_i64 (by omega) (by omega)) .i64) <| .a 1 3 <| .nil _ _) ?_
                  refine then_normal ?_
                  refine al_w [(0, .slice (some ⟨0, 0, none⟩) ps.length 0), (3, .int .i64 ((ps.length : Nat) : Int)), (6, .int .i64 ((u : Nat) : Int)), (7, .pointer (some ⟨1, 0, none⟩)), (8, .pointer (some ⟨2, 0, none⟩)), (9, .int .i64 (((k + 1) : Nat) : Int)), (27, .int .i64 ((ps.length : Nat) : Int)), (28, .int .i64 ((u : Nat) : Int))] [(0, ⟨(ps.flatMap ptc), 24, false, 2⟩), (1, ⟨[.int .i64 ((ps.getD u (0, 0)).1), .int .i64 ((ps.getD u (0, 0)).2)], 24, true, 2⟩), (2, ⟨[.int .i64 ((ps.getD u2 (0, 0)).1), .int .i64 ((ps.getD u2 (0, 0)).2)], 24, true, 2⟩)] ?_ (hc := (by simp [closedB, valsB, valB, List.all_eq_true, List.mem_flatMap, List.mem_range, List.mem_map, i64v, ptc, flat1]; try (intros; simp [valsB, valB, flat1]); try decide))
                  exact ih3 (k + 1) (show (u + 1 ≤ (k + 1) ∧ (k + 1) ≤ ps.length) ∧ (Sp.rgRow ps u (k + 1) = true) from ⟨by omega, by (exact Sp.rgRow_next hb hk.1 hu2 hk2 (by unfold Sp.wantN; first | (rw [if_pos (by omega)]; done) | (rw [if_neg (by omega)]; done)) (by assumption))⟩) (show ps.length - (k + 1) < ps.length - k from by omega)
              · have h8p : ¬ ((((k : Nat) : Int) = (((u : Nat) : Int) + 1))) := by first | (simpa using h8) | (have h8q := h8; simp at h8q; omega) | (have h8q := bx2 h8; simp at h8q; omega)
                rcases Bool.eq_false_or_eq_true (((u : Nat) : Int) == 0) with h9 | h9
                · have h9p : ((((u : Nat) : Int) = 0)) := by first | (simpa using h9) | (have h9q := h9; simp at h9q; omega) | (have h9q := bx1 h9; simp at h9q; omega)
                  refine aw_p 66576365 (
                    .a 2 3 <| .p (does_i (((u : Nat) : Int) + 1) (wrap_i64 (by omega) (by omega)) .i64) <| .p (does_b false (h8)) <| .a 2 3 <| .p (does_b true (h9)) <| .a 3 3 <| .p (does_i (((ps.length : Nat) : Int) - 1) (wrap_i64 (by omega) (by omega)) .i64) <| .a 3 3 <| .nil _ _) ?_
                  refine aw_cd 133152730 133152731 (((k : Nat) : Int) == (((ps.length : Nat) : Int) - 1)) (fun h11 => ?_) (fun h11 => ?_)
                  · have h11p : ((((k : Nat) : Int) = (((ps.length : Nat) : Int) - 1))) := by first | (simpa using h11) | (have h11q := h11; simp at h11q; omega) | (have h11q := bx1 h11; simp at h11q; omega)
                    refine aw_p1 (
                      .a 1 3 <| .nil _ _) ?_
                    refine then_normal ?_
                    refine aw_d 66576367 (
                      .a 4 3 <| .p (does_indexSlice (t := 37) (x := .tmp 68) (y := .tmp 69) (k := 0) (off := 0) (n := ps.length) (c := 0) (z := 2) (kd := .i64) (j := ((k : Nat) : Int)) (by kernel_rfl) (by kernel_rfl) (by kernel_rfl) (by kernel_rfl) (by kernel_rfl) (by omega) (by omega)) <|
                      .p (does_load (t := 24) (x := .tmp 70) (k := 0) (off := (0 + (((k : Nat) : Int)).toNat * 2)) (b := ⟨(ps.flatMap ptc), 24, false, 2⟩) (v := .agg #[.int .i64 ((ps.getD k (0, 0)).1), .int .i64 ((ps.getD k (0, 0)).2)]) (by kernel_rfl) (by kernel_rfl) (by kernel_rfl) (ldV_pair (j := k) (by kernel_rfl) (by kernel_rfl) (by omega) (by omega))) <|
                      .a 2 3 <| .p (does_i (((k : Nat) : Int) + 1) (wrap_i64 (by omega) (by omega)) .i64) <| .a 1 3 <|
                      .p (does_int (n' := ((k2 : Nat) : Int)) (does_rem (t := 3) (t2 := 3) (x := .tmp 74) (y := .tmp 75) (k := .i64) (a := (((k : Nat) : Int) + 1)) (b := ((ps.length : Nat) : Int)) (by kernel_rfl) (by kernel_rfl) (by kernel_rfl) (by omega)) ((show (Int.tmod (((k : Nat) : Int) + 1) ((ps.length : Nat) : Int)) = ((k2 : Nat) : Int) from (by rw [← hk2]; exact rfl)))) <|
                      .p (does_indexSlice (t := 37) (x := .tmp 72) (y := .tmp 76) (k := 0) (off := 0) (n := ps.length) (c := 0) (z := 2) (kd := .i64) (j := ((k2 : Nat) : Int)) (by kernel_rfl) (by kernel_rfl) (by kernel_rfl) (by kernel_rfl) (by kernel_rfl) (by omega) (by omega)) <|
                      .p (does_load (t := 24) (x := .tmp 77) (k := 0) (off := (0 + (((k2 : Nat) : Int)).toNat * 2)) (b := ⟨(ps.flatMap ptc), 24, false, 2⟩) (v := .agg #[.int .i64 ((ps.getD k2 (0, 0)).1), .int .i64 ((ps.getD k2 (0, 0)).2)]) (by kernel_rfl) (by kernel_rfl) (by kernel_rfl) (ldV_pair (j := k2) (by kernel_rfl) (by kernel_rfl) (by omega) (by omega))) <|
                      .p (does_c (rshared_any ((ps.getD u (0, 0)).1) ((ps.getD u (0, 0)).2) ((ps.getD u2 (0, 0)).1) ((ps.getD u2 (0, 0)).2) ((ps.getD k (0, 0)).1) ((ps.getD k (0, 0)).2) ((ps.getD k2 (0, 0)).1) ((ps.getD k2 (0, 0)).2))) <| .a 2 3 <| .nil _ _) ?_
                    refine aw_cd 133152734 133152735 ((Sp.meetN (Sp.lim 1048576 ((ps.getD u (0, 0)).1)) (Sp.lim 1048576 ((ps.getD u (0, 0)).2)) (Sp.lim 1048576 ((ps.getD u2 (0, 0)).1)) (Sp.lim 1048576 ((ps.getD u2 (0, 0)).2)) (Sp.lim 1048576 ((ps.getD k (0, 0)).1)) (Sp.lim 1048576 ((ps.getD k (0, 0)).2)) (Sp.lim 1048576 ((ps.getD k2 (0, 0)).1)) (Sp.lim 1048576 ((ps.getD k2 (0, 0)).2))) != 1) (fun h12 => ?_) (fun h12 => ?_)
                    · have h12p : (¬ ((Sp.meetN (Sp.lim 1048576 ((ps.getD u (0, 0)).1)) (Sp.lim 1048576 ((ps.getD u (0, 0)).2)) (Sp.lim 1048576 ((ps.getD u2 (0, 0)).1)) (Sp.lim 1048576 ((ps.getD u2 (0, 0)).2)) (Sp.lim 1048576 ((ps.getD k (0, 0)).1)) (Sp.lim 1048576 ((ps.getD k (0, 0)).2)) (Sp.lim 1048576 ((ps.getD k2 (0, 0)).1)) (Sp.lim 1048576 ((ps.getD k2 (0, 0)).2))) = 1)) := by first | (simpa using h12) | (have h12q := h12; simp at h12q; omega) | (have h12q := bx1 h12; simp at h12q; omega)
                      refine aw_p 266305469 (
                        .a 1 3 <| .nil _ _) ?_
                      refine aw_rt ?_
                      refine block_ret ?_
                      refine then_ret ?_
                      refine then_ret ?_
                      refine block_ret ?_
                      refine block_ret ?_
                      refine then_ret ?_
                      refine then_ret ?_
                      refine block_ret ?_
                      refine then_ret ?_
                      exact en_ret [.int .i64 10] (show (.int .i64 10 : Value) = (.int .i64 (Sp.chkF ps)) from (congrArg (Value.int .i64) (show 10 = (Sp.chkF ps) from by (first | exact (Sp.chk_2 (by assumption)).symm | exact (Sp.chk_3 (by assumption) (by assumption)).symm | exact (Sp.chk_1 (by assumption) (by assumption) (Sp.any_yes hil (by assumption))).symm | exact (Sp.rg_10 (by assumption) (by assumption) hnok (Sp.allrg_no1 hul hu2 (by assumption))).symm | exact (Sp.rg_10 (by assumption) (by assumption) hnok (Sp.allrg_no2 hul hk.1 hkl hu2 hk2 (by unfold Sp.wantN; first | (rw [if_pos (by omega)]; done) | (rw [if_neg (by omega)]; done)) (by assumption))).symm | exact (Sp.rg_0 (by assumption) (by assumption) hnok hge ha).symm))))
                    · have h12p : ¬ (¬ ((Sp.meetN (Sp.lim 1048576 ((ps.getD u (0, 0)).1)) (Sp.lim 1048576 ((ps.getD u (0, 0)).2)) (Sp.lim 1048576 ((ps.getD u2 (0, 0)).1)) (Sp.lim 1048576 ((ps.getD u2 (0, 0)).2)) (Sp.lim 1048576 ((ps.getD k (0, 0)).1)) (Sp.lim 1048576 ((ps.getD k (0, 0)).2)) (Sp.lim 1048576 ((ps.getD k2 (0, 0)).1)) (Sp.lim 1048576 ((ps.getD k2 (0, 0)).2))) = 1)) := by first | (simpa using h12) | (have h12q := h12; simp at h12q; omega) | (have h12q := bx2 h12; simp at h12q; omega)
                      refine aw_sk ?_
                      refine block_normal ?_
                      refine then_normal ?_
                      refine aw_p1 (
                        .a 1 3 <| .p (does_i (((k : Nat) : Int) + 1) (wrap_i64 (by omega) (by omega)) .i64) <| .a 1 3 <| .nil _ _) ?_
                      refine then_normal ?_
                      refine al_w [(0, .slice (some ⟨0, 0, none⟩) ps.length 0), (3, .int .i64 ((ps.length : Nat) : Int)), (6, .int .i64 ((u : Nat) : Int)), (7, .pointer (some ⟨1, 0, none⟩)), (8, .pointer (some ⟨2, 0, none⟩)), (9, .int .i64 (((k + 1) : Nat) : Int)), (27, .int .i64 ((ps.length : Nat) : Int)), (28, .int .i64 ((u : Nat) : Int))] [(0, ⟨(ps.flatMap ptc), 24, false, 2⟩), (1, ⟨[.int .i64 ((ps.getD u (0, 0)).1), .int .i64 ((ps.getD u (0, 0)).2)], 24, true, 2⟩), (2, ⟨[.int .i64 ((ps.getD u2 (0, 0)).1), .int .i64 ((ps.getD u2 (0, 0)).2)], 24, true, 2⟩)] ?_ (hc := (by simp [closedB, valsB, valB, List.all_eq_true, List.mem_flatMap, List.mem_range, List.mem_map, i64v, ptc, flat1]; try (intros; simp [valsB, valB, flat1]); try decide))
                      exact ih3 (k + 1) (show (u + 1 ≤ (k + 1) ∧ (k + 1) ≤ ps.length) ∧ (Sp.rgRow ps u (k + 1) = true) from ⟨by omega, by (exact Sp.rgRow_next hb hk.1 hu2 hk2 (by unfold Sp.wantN; first | (rw [if_pos (by omega)]; done) | (rw [if_neg (by omega)]; done)) (by assumption))⟩) (show ps.length - (k + 1) < ps.length - k from by omega)
                  · have h11p : ¬ ((((k : Nat) : Int) = (((ps.length : Nat) : Int) - 1))) := by first | (simpa using h11) | (have h11q := h11; simp at h11q; omega) | (have h11q := bx2 h11; simp at h11q; omega)
                    refine aw_sk ?_
                    refine then_normal ?_
                    refine aw_d 66576367 (
                      .a 4 3 <| .p (does_indexSlice (t := 37) (x := .tmp 68) (y := .tmp 69) (k := 0) (off := 0) (n := ps.length) (c := 0) (z := 2) (kd := .i64) (j := ((k : Nat) : Int)) (by kernel_rfl) (by kernel_rfl) (by kernel_rfl) (by kernel_rfl) (by kernel_rfl) (by omega) (by omega)) <|
                      .p (does_load (t := 24) (x := .tmp 70) (k := 0) (off := (0 + (((k : Nat) : Int)).toNat * 2)) (b := ⟨(ps.flatMap ptc), 24, false, 2⟩) (v := .agg #[.int .i64 ((ps.getD k (0, 0)).1), .int .i64 ((ps.getD k (0, 0)).2)]) (by kernel_rfl) (by kernel_rfl) (by kernel_rfl) (ldV_pair (j := k) (by kernel_rfl) (by kernel_rfl) (by omega) (by omega))) <|
                      .a 2 3 <| .p (does_i (((k : Nat) : Int) + 1) (wrap_i64 (by omega) (by omega)) .i64) <| .a 1 3 <|
                      .p (does_int (n' := ((k2 : Nat) : Int)) (does_rem (t := 3) (t2 := 3) (x := .tmp 74) (y := .tmp 75) (k := .i64) (a := (((k : Nat) : Int) + 1)) (b := ((ps.length : Nat) : Int)) (by kernel_rfl) (by kernel_rfl) (by kernel_rfl) (by omega)) ((show (Int.tmod (((k : Nat) : Int) + 1) ((ps.length : Nat) : Int)) = ((k2 : Nat) : Int) from (by rw [← hk2]; exact rfl)))) <|
                      .p (does_indexSlice (t := 37) (x := .tmp 72) (y := .tmp 76) (k := 0) (off := 0) (n := ps.length) (c := 0) (z := 2) (kd := .i64) (j := ((k2 : Nat) : Int)) (by kernel_rfl) (by kernel_rfl) (by kernel_rfl) (by kernel_rfl) (by kernel_rfl) (by omega) (by omega)) <|
                      .p (does_load (t := 24) (x := .tmp 77) (k := 0) (off := (0 + (((k2 : Nat) : Int)).toNat * 2)) (b := ⟨(ps.flatMap ptc), 24, false, 2⟩) (v := .agg #[.int .i64 ((ps.getD k2 (0, 0)).1), .int .i64 ((ps.getD k2 (0, 0)).2)]) (by kernel_rfl) (by kernel_rfl) (by kernel_rfl) (ldV_pair (j := k2) (by kernel_rfl) (by kernel_rfl) (by omega) (by omega))) <|
                      .p (does_c (rshared_any ((ps.getD u (0, 0)).1) ((ps.getD u (0, 0)).2) ((ps.getD u2 (0, 0)).1) ((ps.getD u2 (0, 0)).2) ((ps.getD k (0, 0)).1) ((ps.getD k (0, 0)).2) ((ps.getD k2 (0, 0)).1) ((ps.getD k2 (0, 0)).2))) <| .a 2 3 <| .nil _ _) ?_
                    refine aw_cd 133152734 133152735 ((Sp.meetN (Sp.lim 1048576 ((ps.getD u (0, 0)).1)) (Sp.lim 1048576 ((ps.getD u (0, 0)).2)) (Sp.lim 1048576 ((ps.getD u2 (0, 0)).1)) (Sp.lim 1048576 ((ps.getD u2 (0, 0)).2)) (Sp.lim 1048576 ((ps.getD k (0, 0)).1)) (Sp.lim 1048576 ((ps.getD k (0, 0)).2)) (Sp.lim 1048576 ((ps.getD k2 (0, 0)).1)) (Sp.lim 1048576 ((ps.getD k2 (0, 0)).2))) != 0) (fun h13 => ?_) (fun h13 => ?_)
                    · have h13p : (¬ ((Sp.meetN (Sp.lim 1048576 ((ps.getD u (0, 0)).1)) (Sp.lim 1048576 ((ps.getD u (0, 0)).2)) (Sp.lim 1048576 ((ps.getD u2 (0, 0)).1)) (Sp.lim 1048576 ((ps.getD u2 (0, 0)).2)) (Sp.lim 1048576 ((ps.getD k (0, 0)).1)) (Sp.lim 1048576 ((ps.getD k (0, 0)).2)) (Sp.lim 1048576 ((ps.getD k2 (0, 0)).1)) (Sp.lim 1048576 ((ps.getD k2 (0, 0)).2))) = 0)) := by first | (simpa using h13) | (have h13q := h13; simp at h13q; omega) | (have h13q := bx1 h13; simp at h13q; omega)
                      refine aw_p 266305469 (
                        .a 1 3 <| .nil _ _) ?_
                      refine aw_rt ?_
                      refine block_ret ?_
                      refine then_ret ?_
                      refine then_ret ?_
                      refine block_ret ?_
                      refine block_ret ?_
                      refine then_ret ?_
                      refine then_ret ?_
                      refine block_ret ?_
                      refine then_ret ?_
                      exact en_ret [.int .i64 10] (show (.int .i64 10 : Value) = (.int .i64 (Sp.chkF ps)) from (congrArg (Value.int .i64) (show 10 = (Sp.chkF ps) from by (first | exact (Sp.chk_2 (by assumption)).symm | exact (Sp.chk_3 (by assumption) (by assumption)).symm | exact (Sp.chk_1 (by assumption) (by assumption) (Sp.any_yes hil (by assumption))).symm | exact (Sp.rg_10 (by assumption) (by assumption) hnok (Sp.allrg_no1 hul hu2 (by assumption))).symm | exact (Sp.rg_10 (by assumption) (by assumption) hnok (Sp.allrg_no2 hul hk.1 hkl hu2 hk2 (by unfold Sp.wantN; first | (rw [if_pos (by omega)]; done) | (rw [if_neg (by omega)]; done)) (by assumption))).symm | exact (Sp.rg_0 (by assumption) (by assumption) hnok hge ha).symm))))
                    · have h13p : ¬ (¬ ((Sp.meetN (Sp.lim 1048576 ((ps.getD u (0, 0)).1)) (Sp.lim 1048576 ((ps.getD u (0, 0)).2)) (Sp.lim 1048576 ((ps.getD u2 (0, 0)).1)) (Sp.lim 1048576 ((ps.getD u2 (0, 0)).2)) (Sp.lim 1048576 ((ps.getD k (0, 0)).1)) (Sp.lim 1048576 ((ps.getD k (0, 0)).2)) (Sp.lim 1048576 ((ps.getD k2 (0, 0)).1)) (Sp.lim 1048576 ((ps.getD k2 (0, 0)).2))) = 0)) := by first | (simpa using h13) | (have h13q := h13; simp at h13q; omega) | (have h13q := bx2 h13; simp at h13q; omega)
                      refine aw_sk ?_
                      refine block_normal ?_
                      refine then_normal ?_
                      refine aw_p1 (
                        .a 1 3 <| .p (does_i (((k : Nat) : Int) + 1) (wrap_i64 (by omega) (by omega)) .i64) <| .a 1 3 <| .nil _ _) ?_
                      refine then_normal ?_
                      refine al_w [(0, .slice (some ⟨0, 0, none⟩) ps.length 0), (3, .int .i64 ((ps.length : Nat) : Int)), (6, .int .i64 ((u : Nat) : Int)), (7, .pointer (some ⟨1, 0, none⟩)), (8, .pointer (some ⟨2, 0, none⟩)), (9, .int .i64 (((k + 1) : Nat) : Int)), (27, .int .i64 ((ps.length : Nat) : Int)), (28, .int .i64 ((u : Nat) : Int))] [(0, ⟨(ps.flatMap ptc), 24, false, 2⟩), (1, ⟨[.int .i64 ((ps.getD u (0, 0)).1), .int .i64 ((ps.getD u (0, 0)).2)], 24, true, 2⟩), (2, ⟨[.int .i64 ((ps.getD u2 (0, 0)).1), .int .i64 ((ps.getD u2 (0, 0)).2)], 24, true, 2⟩)] ?_ (hc := (by simp [closedB, valsB, valB, List.all_eq_true, List.mem_flatMap, List.mem_range, List.mem_map, i64v, ptc, flat1]; try (intros; simp [valsB, valB, flat1]); try decide))
                      exact ih3 (k + 1) (show (u + 1 ≤ (k + 1) ∧ (k + 1) ≤ ps.length) ∧ (Sp.rgRow ps u (k + 1) = true) from ⟨by omega, by (exact Sp.rgRow_next hb hk.1 hu2 hk2 (by unfold Sp.wantN; first | (rw [if_pos (by omega)]; done) | (rw [if_neg (by omega)]; done)) (by assumption))⟩) (show ps.length - (k + 1) < ps.length - k from by omega)
                · have h9p : ¬ ((((u : Nat) : Int) = 0)) := by first | (simpa using h9) | (have h9q := h9; simp at h9q; omega) | (have h9q := bx2 h9; simp at h9q; omega)
                  refine aw_p 66576365 (
                    .a 2 3 <| .p (does_i (((u : Nat) : Int) + 1) (wrap_i64 (by omega) (by omega)) .i64) <| .p (does_b false (h8)) <| .a 2 3 <| .p (does_b false (h9)) <| .a 7 3 <| .nil _ _) ?_
                  refine aw_fl 133152731 ?_
                  refine aw_sk ?_
                  refine then_normal ?_
                  refine aw_d 66576367 (
                    .a 4 3 <| .p (does_indexSlice (t := 37) (x := .tmp 68) (y := .tmp 69) (k := 0) (off := 0) (n := ps.length) (c := 0) (z := 2) (kd := .i64) (j := ((k : Nat) : Int)) (by kernel_rfl) (by kernel_rfl) (by kernel_rfl) (by kernel_rfl) (by kernel_rfl) (by omega) (by omega)) <|
                    .p (does_load (t := 24) (x := .tmp 70) (k := 0) (off := (0 + (((k : Nat) : Int)).toNat * 2)) (b := ⟨(ps.flatMap ptc), 24, false, 2⟩) (v := .agg #[.int .i64 ((ps.getD k (0, 0)).1), .int .i64 ((ps.getD k (0, 0)).2)]) (by kernel_rfl) (by kernel_rfl) (by kernel_rfl) (ldV_pair (j := k) (by kernel_rfl) (by kernel_rfl) (by omega) (by omega))) <|
                    .a 2 3 <| .p (does_i (((k : Nat) : Int) + 1) (wrap_i64 (by omega) (by omega)) .i64) <| .a 1 3 <|
                    .p (does_int (n' := ((k2 : Nat) : Int)) (does_rem (t := 3) (t2 := 3) (x := .tmp 74) (y := .tmp 75) (k := .i64) (a := (((k : Nat) : Int) + 1)) (b := ((ps.length : Nat) : Int)) (by kernel_rfl) (by kernel_rfl) (by kernel_rfl) (by omega)) ((show (Int.tmod (((k : Nat) : Int) + 1) ((ps.length : Nat) : Int)) = ((k2 : Nat) : Int) from (by rw [← hk2]; exact rfl)))) <|
                    .p (does_indexSlice (t := 37) (x := .tmp 72) (y := .tmp 76) (k := 0) (off := 0) (n := ps.length) (c := 0) (z := 2) (kd := .i64) (j := ((k2 : Nat) : Int)) (by kernel_rfl) (by kernel_rfl) (by kernel_rfl) (by kernel_rfl) (by kernel_rfl) (by omega) (by omega)) <|
                    .p (does_load (t := 24) (x := .tmp 77) (k := 0) (off := (0 + (((k2 : Nat) : Int)).toNat * 2)) (b := ⟨(ps.flatMap ptc), 24, false, 2⟩) (v := .agg #[.int .i64 ((ps.getD k2 (0, 0)).1), .int .i64 ((ps.getD k2 (0, 0)).2)]) (by kernel_rfl) (by kernel_rfl) (by kernel_rfl) (ldV_pair (j := k2) (by kernel_rfl) (by kernel_rfl) (by omega) (by omega))) <|
                    .p (does_c (rshared_any ((ps.getD u (0, 0)).1) ((ps.getD u (0, 0)).2) ((ps.getD u2 (0, 0)).1) ((ps.getD u2 (0, 0)).2) ((ps.getD k (0, 0)).1) ((ps.getD k (0, 0)).2) ((ps.getD k2 (0, 0)).1) ((ps.getD k2 (0, 0)).2))) <| .a 2 3 <| .nil _ _) ?_
                  refine aw_cd 133152734 133152735 ((Sp.meetN (Sp.lim 1048576 ((ps.getD u (0, 0)).1)) (Sp.lim 1048576 ((ps.getD u (0, 0)).2)) (Sp.lim 1048576 ((ps.getD u2 (0, 0)).1)) (Sp.lim 1048576 ((ps.getD u2 (0, 0)).2)) (Sp.lim 1048576 ((ps.getD k (0, 0)).1)) (Sp.lim 1048576 ((ps.getD k (0, 0)).2)) (Sp.lim 1048576 ((ps.getD k2 (0, 0)).1)) (Sp.lim 1048576 ((ps.getD k2 (0, 0)).2))) != 0) (fun h14 => ?_) (fun h14 => ?_)
                  · have h14p : (¬ ((Sp.meetN (Sp.lim 1048576 ((ps.getD u (0, 0)).1)) (Sp.lim 1048576 ((ps.getD u (0, 0)).2)) (Sp.lim 1048576 ((ps.getD u2 (0, 0)).1)) (Sp.lim 1048576 ((ps.getD u2 (0, 0)).2)) (Sp.lim 1048576 ((ps.getD k (0, 0)).1)) (Sp.lim 1048576 ((ps.getD k (0, 0)).2)) (Sp.lim 1048576 ((ps.getD k2 (0, 0)).1)) (Sp.lim 1048576 ((ps.getD k2 (0, 0)).2))) = 0)) := by first | (simpa using h14) | (have h14q := h14; simp at h14q; omega) | (have h14q := bx1 h14; simp at h14q; omega)
                    refine aw_p 266305469 (
                      .a 1 3 <| .nil _ _) ?_
                    refine aw_rt ?_
                    refine block_ret ?_
                    refine then_ret ?_
                    refine then_ret ?_
                    refine block_ret ?_
                    refine block_ret ?_
                    refine then_ret ?_
                    refine then_ret ?_
                    refine block_ret ?_
                    refine then_ret ?_
                    exact en_ret [.int .i64 10] (show (.int .i64 10 : Value) = (.int .i64 (Sp.chkF ps)) from (congrArg (Value.int .i64) (show 10 = (Sp.chkF ps) from by (first | exact (Sp.chk_2 (by assumption)).symm | exact (Sp.chk_3 (by assumption) (by assumption)).symm | exact (Sp.chk_1 (by assumption) (by assumption) (Sp.any_yes hil (by assumption))).symm | exact (Sp.rg_10 (by assumption) (by assumption) hnok (Sp.allrg_no1 hul hu2 (by assumption))).symm | exact (Sp.rg_10 (by assumption) (by assumption) hnok (Sp.allrg_no2 hul hk.1 hkl hu2 hk2 (by unfold Sp.wantN; first | (rw [if_pos (by omega)]; done) | (rw [if_neg (by omega)]; done)) (by assumption))).symm | exact (Sp.rg_0 (by assumption) (by assumption) hnok hge ha).symm))))
                  · have h14p : ¬ (¬ ((Sp.meetN (Sp.lim 1048576 ((ps.getD u (0, 0)).1)) (Sp.lim 1048576 ((ps.getD u (0, 0)).2)) (Sp.lim 1048576 ((ps.getD u2 (0, 0)).1)) (Sp.lim 1048576 ((ps.getD u2 (0, 0)).2)) (Sp.lim 1048576 ((ps.getD k (0, 0)).1)) (Sp.lim 1048576 ((ps.getD k (0, 0)).2)) (Sp.lim 1048576 ((ps.getD k2 (0, 0)).1)) (Sp.lim 1048576 ((ps.getD k2 (0, 0)).2))) = 0)) := by first | (simpa using h14) | (have h14q := h14; simp at h14q; omega) | (have h14q := bx2 h14; simp at h14q; omega)
                    refine aw_sk ?_
                    refine block_normal ?_
                    refine then_normal ?_
                    refine aw_p1 (
                      .a 1 3 <| .p (does_i (((k : Nat) : Int) + 1) (wrap_i64 (by omega) (by omega)) .i64) <| .a 1 3 <| .nil _ _) ?_
                    refine then_normal ?_
                    refine al_w [(0, .slice (some ⟨0, 0, none⟩) ps.length 0), (3, .int .i64 ((ps.length : Nat) : Int)), (6, .int .i64 ((u : Nat) : Int)), (7, .pointer (some ⟨1, 0, none⟩)), (8, .pointer (some ⟨2, 0, none⟩)), (9, .int .i64 (((k + 1) : Nat) : Int)), (27, .int .i64 ((ps.length : Nat) : Int)), (28, .int .i64 ((u : Nat) : Int))] [(0, ⟨(ps.flatMap ptc), 24, false, 2⟩), (1, ⟨[.int .i64 ((ps.getD u (0, 0)).1), .int .i64 ((ps.getD u (0, 0)).2)], 24, true, 2⟩), (2, ⟨[.int .i64 ((ps.getD u2 (0, 0)).1), .int .i64 ((ps.getD u2 (0, 0)).2)], 24, true, 2⟩)] ?_ (hc := (by simp [closedB, valsB, valB, List.all_eq_true, List.mem_flatMap, List.mem_range, List.mem_map, i64v, ptc, flat1]; try (intros; simp [valsB, valB, flat1]); try decide))
                    exact ih3 (k + 1) (show (u + 1 ≤ (k + 1) ∧ (k + 1) ≤ ps.length) ∧ (Sp.rgRow ps u (k + 1) = true) from ⟨by omega, by (exact Sp.rgRow_next hb hk.1 hu2 hk2 (by unfold Sp.wantN; first | (rw [if_pos (by omega)]; done) | (rw [if_neg (by omega)]; done)) (by assumption))⟩) (show ps.length - (k + 1) < ps.length - k from by omega)
            · have h7p : ¬ ((((k : Nat) : Int) < ((ps.length : Nat) : Int))) := by first | (simpa using h7) | (have h7q := h7; simp at h7q; omega) | (have h7q := bx2 h7; simp at h7q; omega)
              have hke : ¬ k < ps.length := by omega
              refine aw_ex 4 ?_
              refine then_exit ?_
              refine then_exit ?_
              refine block_exit ?_
              refine block_normal ?_
              refine then_normal ?_
              refine aw_p1 (
                .p (does_i (((u : Nat) : Int) + 1) (wrap_i64 (by omega) (by omega)) .i64) <| .a 1 3 <| .nil _ _) ?_
              refine then_normal ?_
              refine al_w [(0, .slice (some ⟨0, 0, none⟩) ps.length 0), (3, .int .i64 ((ps.length : Nat) : Int)), (27, .int .i64 ((ps.length : Nat) : Int)), (28, .int .i64 (((u + 1) : Nat) : Int))] [(0, ⟨(ps.flatMap ptc), 24, false, 2⟩)] ?_ (hc := (by simp [closedB, valsB, valB, List.all_eq_true, List.mem_flatMap, List.mem_range, List.mem_map, i64v, ptc, flat1]; try (intros; simp [valsB, valB, flat1]); try decide))
              exact ih2 (u + 1) (show ((u + 1) ≤ ps.length) ∧ (Sp.allrg ps (u + 1) = true) from ⟨by omega, by (exact Sp.allrg_next ha hu2 (by assumption) hke (by omega) hb)⟩) (show ps.length - (u + 1) < ps.length - u from by omega)
        · have h5p : ¬ ((((u : Nat) : Int) < ((ps.length : Nat) : Int))) := by first | (simpa using h5) | (have h5q := h5; simp at h5q; omega) | (have h5q := bx2 h5; simp at h5q; omega)
          have hge : u = ps.length := by omega
          refine aw_ex 2 ?_
          refine then_exit ?_
          refine then_exit ?_
          refine block_exit ?_
          refine then_normal ?_
          refine aw_p 255 (
            .a 1 1 <| .nil _ _) ?_
          refine aw_rt ?_
          exact en_ret [.int .i64 0] (show (.int .i64 0 : Value) = (.int .i64 (Sp.chkF ps)) from (congrArg (Value.int .i64) (show 0 = (Sp.chkF ps) from by (first | exact (Sp.chk_2 (by assumption)).symm | exact (Sp.chk_3 (by assumption) (by assumption)).symm | exact (Sp.chk_1 (by assumption) (by assumption) (Sp.any_yes hil (by assumption))).symm | exact (Sp.rg_10 (by assumption) (by assumption) hnok (Sp.allrg_no1 hul hu2 (by assumption))).symm | exact (Sp.rg_10 (by assumption) (by assumption) hnok (Sp.allrg_no2 hul hk.1 hkl hu2 hk2 (by unfold Sp.wantN; first | (rw [if_pos (by omega)]; done) | (rw [if_neg (by omega)]; done)) (by assumption))).symm | exact (Sp.rg_0 (by assumption) (by assumption) hnok hge ha).symm))))

theorem rgn_ro (ps : List (Int × Int)) (N : Nat) (hN : ps.length = N) (hz : N ≤ 9223372036854775807) : AC Try.prog 55 1 [.slice (some ⟨0, 0, none⟩) N 0] [(0, ⟨(ps.flatMap ptc), 24, false, 2⟩)] (.int .i64 (Sp.chkF ps)) [] := by
  subst hN
  exact rg_ro ps hz

end Go.Proofs.Ytigllakcfdoagaa.Am
