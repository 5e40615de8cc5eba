import Derived.Test.YtndkhgfecnbmnaaProg
import Derived.Test.YtndkhgfecnbmnaaM2
import Derived.Test.YtndkhgfecnbmnaaM7
import Derived.Test.YtndkhgfecnbmnaaM3
import Derived.Test.YtndkhgfecnbmnaaM5
import Derived.Test.YtndkhgfecnbmnaaM4
namespace Go.Proofs.Ytndkhgfecnbmnaa.Am
open Go Go.Proofs
set_option maxRecDepth 100000
set_option maxHeartbeats 4000000
set_option linter.unusedVariables false
set_option linter.unusedSimpArgs false
theorem chk_own (ps : List (Int × Int)) (hz : ps.length ≤ 9223372036854775807) :
    AC Try.prog 38 1 ([sV 0 ps.length]) [(0, (pB ps))] (.int .i64 (Sp.chkF ps)) [(0, (pB ps))] := by
  refine ac_in Try.func38 (fun w0 W pin => ?_)
  refine aw_p 3 (
    .a 1 1 <| .nil _ _) ?_
  refine aw_p 7 (
    .a 3 1 <| .nil _ _) ?_
  refine aw_sq 14 15 ?_
  refine aw_bl 0 29 ?_
  refine aw_p 59 (
    .a 3 1 <| .nil _ _) ?_
  refine aw_cd 118 119 (decide (((ps.length : Nat) : Int) > 200)) (fun h1 => ?_) (fun h1 => ?_)
  · have h1p : ((((ps.length : Nat) : Int) > 200)) := by first | (simpa using h1) | (have h1q := h1; simp at h1q; omega) | (have h1q := bx1 h1; simp at h1q; omega)
    refine aw_p 237 (
      .a 1 1 <| .nil _ _) ?_
    refine aw_rt ?_
    refine block_ret ?_
    refine then_ret ?_
    exact en_ret [.int .i64 2] (show (.int .i64 2 : Value) = (.int .i64 (Sp.chkF ps)) from (congrArg (Value.int .i64) (show 2 = (Sp.chkF ps) from by (first | exact (Sp.chk_2 (by assumption)).symm | exact (Sp.chk_3 (by assumption) (by assumption)).symm | exact (Sp.chk_1 (by assumption) (by assumption) (by assumption)).symm | exact (Sp.chk_10 (by assumption) (by assumption) (by assumption) (Sp.allap_no hil hkl hk2 hu2 (by assumption))).symm | exact (Sp.chk_0 (by assumption) (by assumption) (by assumption) hge ha).symm))))
  · have h1p : ¬ ((((ps.length : Nat) : Int) > 200)) := by first | (simpa using h1) | (have h1q := h1; simp at h1q; omega) | (have h1q := bx2 h1; simp at h1q; omega)
    refine aw_p 239 (
      .a 3 1 <| .nil _ _) ?_
    refine aw_cd 478 479 (decide (((ps.length : Nat) : Int) < 3)) (fun h2 => ?_) (fun h2 => ?_)
    · have h2p : ((((ps.length : Nat) : Int) < 3)) := by first | (simpa using h2) | (have h2q := h2; simp at h2q; omega) | (have h2q := bx1 h2; simp at h2q; omega)
      refine aw_p 957 (
        .a 1 1 <| .nil _ _) ?_
      refine aw_rt ?_
      refine block_ret ?_
      refine then_ret ?_
      exact en_ret [.int .i64 3] (show (.int .i64 3 : Value) = (.int .i64 (Sp.chkF ps)) from (congrArg (Value.int .i64) (show 3 = (Sp.chkF ps) from by (first | exact (Sp.chk_2 (by assumption)).symm | exact (Sp.chk_3 (by assumption) (by assumption)).symm | exact (Sp.chk_1 (by assumption) (by assumption) (by assumption)).symm | exact (Sp.chk_10 (by assumption) (by assumption) (by assumption) (Sp.allap_no hil hkl hk2 hu2 (by assumption))).symm | exact (Sp.chk_0 (by assumption) (by assumption) (by assumption) hge ha).symm))))
    · have h2p : ¬ ((((ps.length : Nat) : Int) < 3)) := by first | (simpa using h2) | (have h2q := h2; simp at h2q; omega) | (have h2q := bx2 h2; simp at h2q; omega)
      refine aw_p 959 (
        .a 1 1 <| .p (cS #[.tmp 15, .func 84] #[30, 102] [sV 0 ps.length, .func (.func 84) #[] #[]] [0] [(0, (pB ps))] (.bool (ps.any Sp.nok)) (ctf_nokn_own ps ps.length (rfl) (by first | omega | decide)) (.cons rS (.cons rF .nil)) ⟨rfl, bP, trivial⟩ rF) <| .a 1 1 <| .nil _ _) ?_
      refine aw_cd 1918 1919 (ps.any Sp.nok) (fun h3 => ?_) (fun h3 => ?_)
      · refine aw_p 3837 (
          .a 1 1 <| .nil _ _) ?_
        refine aw_rt ?_
        refine block_ret ?_
        refine then_ret ?_
        exact en_ret [.int .i64 1] (show (.int .i64 1 : Value) = (.int .i64 (Sp.chkF ps)) from (congrArg (Value.int .i64) (show 1 = (Sp.chkF ps) from by (first | exact (Sp.chk_2 (by assumption)).symm | exact (Sp.chk_3 (by assumption) (by assumption)).symm | exact (Sp.chk_1 (by assumption) (by assumption) (by assumption)).symm | exact (Sp.chk_10 (by assumption) (by assumption) (by assumption) (Sp.allap_no hil hkl hk2 hu2 (by assumption))).symm | exact (Sp.chk_0 (by assumption) (by assumption) (by assumption) hge ha).symm))))
      · refine aw_sk ?_
        refine block_normal ?_
        refine then_normal ?_
        refine aw_sq 30 31 ?_
        refine aw_p 61 (
          .a 2 1 <| .nil _ _) ?_
        refine aw_bl 1 123 ?_
        refine aw_lp 247 ?_
        refine al_w [(0, sV 0 ps.length), (17, .int .i64 ((ps.length : Nat) : Int)), (18, .int .i64 ((0 : Nat) : Int))] [(0, (pB ps))] ?_ (hc := (by simp [closedB, valsB, valB, List.all_eq_true, List.mem_flatMap, List.mem_range, List.mem_map, i64v, ptc, flat1]; try (intros; simp [valsB, valB, flat1]); try decide))
        refine al_ind (fun i : Nat => (fun (u : Nat) => mkSt 1 [(0, sV 0 ps.length), (17, .int .i64 ((ps.length : Nat) : Int)), (18, .int .i64 ((u : Nat) : Int))] [(0, (pB ps))]) i) (fun i : Nat => (fun (u : Nat) => (u ≤ ps.length) ∧ (Sp.allap ps u = true)) i) (fun i : Nat => (fun (u : Nat) => ps.length - u) i) (fun i hi1 ih1 => ?_) 0 (show (0 ≤ ps.length) ∧ (Sp.allap ps 0 = true) from ⟨by omega, by rfl⟩)
        obtain ⟨u, hv1⟩ : ∃ z, z = i := ⟨i, rfl⟩; subst hv1
        have hi1' : (u ≤ ps.length) ∧ (Sp.allap ps u = true) := hi1
        obtain ⟨hi, ha⟩ := hi1'
        show AL _ _ _ (mkSt 1 [(0, sV 0 ps.length), (17, .int .i64 ((ps.length : Nat) : Int)), (18, .int .i64 ((u : Nat) : Int))] [(0, (pB ps))]) _
        refine al_round ?_
        refine aw_p 495 (
          .a 1 1 <| .nil _ _) ?_
        refine aw_sq 990 991 ?_
        refine aw_cd 1980 1981 (decide (((u : Nat) : Int) < ((ps.length : Nat) : Int))) (fun h4 => ?_) (fun h4 => ?_)
        · have h4p : ((((u : Nat) : Int) < ((ps.length : Nat) : Int))) := by first | (simpa using h4) | (have h4q := h4; simp at h4q; omega) | (have h4q := bx1 h4; simp at h4q; omega)
          have hil : u < ps.length := by omega
          refine aw_sk ?_
          refine then_normal ?_
          refine aw_sq 1982 1983 ?_
          refine aw_bl 2 3965 ?_
          refine aw_p 7931 (
            .a 2 1 <| .nil _ _) ?_
          refine aw_p 15863 (
            .a 2 1 <| .nil _ _) ?_
          refine aw_bl 3 31727 ?_
          refine aw_lp 63455 ?_
          refine al_w [(0, sV 0 ps.length), (4, .int .i64 ((u : Nat) : Int)), (17, .int .i64 ((ps.length : Nat) : Int)), (18, .int .i64 ((u : Nat) : Int)), (21, .int .i64 ((u : Nat) : Int)), (22, .int .i64 ((0 : Nat) : Int))] [(0, (pB ps))] ?_ (hc := (by simp [closedB, valsB, valB, List.all_eq_true, List.mem_flatMap, List.mem_range, List.mem_map, i64v, ptc, flat1]; try (intros; simp [valsB, valB, flat1]); try decide))
          refine al_ind (fun i : Nat => (fun (k : Nat) => mkSt 1 [(0, sV 0 ps.length), (4, .int .i64 ((u : Nat) : Int)), (17, .int .i64 ((ps.length : Nat) : Int)), (18, .int .i64 ((u : Nat) : Int)), (21, .int .i64 ((u : Nat) : Int)), (22, .int .i64 ((k : Nat) : Int))] [(0, (pB ps))]) i) (fun i : Nat => (fun (k : Nat) => (k ≤ u) ∧ (Sp.apRow ps u k = true)) i) (fun i : Nat => (fun (k : Nat) => u - k) i) (fun i hi2 ih2 => ?_) 0 (show (0 ≤ u) ∧ (Sp.apRow ps u 0 = true) from ⟨by omega, by rfl⟩)
          obtain ⟨k, hv2⟩ : ∃ z, z = i := ⟨i, rfl⟩; subst hv2
          have hi2' : (k ≤ u) ∧ (Sp.apRow ps u k = true) := hi2
          obtain ⟨hk, hb⟩ := hi2'
          show AL _ _ _ (mkSt 1 [(0, sV 0 ps.length), (4, .int .i64 ((u : Nat) : Int)), (17, .int .i64 ((ps.length : Nat) : Int)), (18, .int .i64 ((u : Nat) : Int)), (21, .int .i64 ((u : Nat) : Int)), (22, .int .i64 ((k : Nat) : Int))] [(0, (pB ps))]) _
          refine al_round ?_
          refine aw_p 126911 (
            .a 1 1 <| .nil _ _) ?_
          refine aw_sq 253822 253823 ?_
          refine aw_cd 507644 507645 (decide (((k : Nat) : Int) < ((u : Nat) : Int))) (fun h5 => ?_) (fun h5 => ?_)
          · have h5p : ((((k : Nat) : Int) < ((u : Nat) : Int))) := by first | (simpa using h5) | (have h5q := h5; simp at h5q; omega) | (have h5q := bx1 h5; simp at h5q; omega)
            have hkl : k < u := by omega
            obtain ⟨k2, hk2⟩ : ∃ j, (k + 1) % ps.length = j := ⟨_, rfl⟩; obtain ⟨u2, hu2⟩ : ∃ j, (u + 1) % ps.length = j := ⟨_, rfl⟩
            refine aw_sk ?_
            refine then_normal ?_
            refine aw_sq 507646 507647 ?_
            refine aw_bl 4 1015293 ?_
            refine aw_p 2030587 (
              .a 2 1 <| .nil _ _) ?_
            refine aw_p 4061175 (
              .a 3 1 <|
              .p (cS #[.tmp 25, .tmp 26, .tmp 27] #[30, 3, 3] [sV 0 ps.length, .int .i64 ((k : Nat) : Int), .int .i64 ((u : Nat) : Int)] [0] [(0, (pB ps))] (.bool (Sp.apF ps k k2 u u2)) (apart_own ps hz k u k2 u2 (by omega) (by omega) hk2 hu2) (.cons rS (.cons rF (.cons rF .nil))) ⟨rfl, bP, trivial⟩ rF) <|
              .a 1 1 <| .nil _ _) ?_
            refine aw_cd 8122350 8122351 (!(Sp.apF ps k k2 u u2)) (fun h6 => ?_) (fun h6 => ?_)
            · refine aw_p 16244701 (
                .a 1 1 <| .nil _ _) ?_
              refine aw_rt ?_
              refine block_ret ?_
              refine then_ret ?_
              refine then_ret ?_
              refine block_ret ?_
              refine block_ret ?_
              refine then_ret ?_
              refine then_ret ?_
              refine block_ret ?_
              refine then_ret ?_
              exact en_ret [.int .i64 10] (show (.int .i64 10 : Value) = (.int .i64 (Sp.chkF ps)) from (congrArg (Value.int .i64) (show 10 = (Sp.chkF ps) from by (first | exact (Sp.chk_2 (by assumption)).symm | exact (Sp.chk_3 (by assumption) (by assumption)).symm | exact (Sp.chk_1 (by assumption) (by assumption) (by assumption)).symm | exact (Sp.chk_10 (by assumption) (by assumption) (by assumption) (Sp.allap_no hil hkl hk2 hu2 (by assumption))).symm | exact (Sp.chk_0 (by assumption) (by assumption) (by assumption) hge ha).symm))))
            · refine aw_sk ?_
              refine block_normal ?_
              refine then_normal ?_
              refine aw_p1 (
                .p (does_i (((k : Nat) : Int) + 1) (wrap_i64 (by omega) (by omega)) .i64) <| .a 1 1 <| .nil _ _) ?_
              refine then_normal ?_
              refine al_w [(0, sV 0 ps.length), (4, .int .i64 ((u : Nat) : Int)), (17, .int .i64 ((ps.length : Nat) : Int)), (18, .int .i64 ((u : Nat) : Int)), (21, .int .i64 ((u : Nat) : Int)), (22, .int .i64 (((k + 1) : Nat) : Int))] [(0, (pB ps))] ?_ (hc := (by simp [closedB, valsB, valB, List.all_eq_true, List.mem_flatMap, List.mem_range, List.mem_map, i64v, ptc, flat1]; try (intros; simp [valsB, valB, flat1]); try decide))
              exact ih2 (k + 1) (show ((k + 1) ≤ u) ∧ (Sp.apRow ps u (k + 1) = true) from ⟨by omega, by exact Sp.apRow_next hb hk2 hu2 (by assumption)⟩) (show u - (k + 1) < u - k from by omega)
          · have h5p : ¬ ((((k : Nat) : Int) < ((u : Nat) : Int))) := by first | (simpa using h5) | (have h5q := h5; simp at h5q; omega) | (have h5q := bx2 h5; simp at h5q; omega)
            have hku : k = u := by omega
            refine aw_ex 3 ?_
            refine then_exit ?_
            refine then_exit ?_
            refine block_exit ?_
            refine block_normal ?_
            refine then_normal ?_
            refine aw_p1 (
              .p (does_i (((u : Nat) : Int) + 1) (wrap_i64 (by omega) (by omega)) .i64) <| .a 1 1 <| .nil _ _) ?_
            refine then_normal ?_
            refine al_w [(0, sV 0 ps.length), (17, .int .i64 ((ps.length : Nat) : Int)), (18, .int .i64 (((u + 1) : Nat) : Int))] [(0, (pB ps))] ?_ (hc := (by simp [closedB, valsB, valB, List.all_eq_true, List.mem_flatMap, List.mem_range, List.mem_map, i64v, ptc, flat1]; try (intros; simp [valsB, valB, flat1]); try decide))
            exact ih1 (u + 1) (show ((u + 1) ≤ ps.length) ∧ (Sp.allap ps (u + 1) = true) from ⟨by omega, by exact Sp.allap_next ha hku hb⟩) (show ps.length - (u + 1) < ps.length - u from by omega)
        · have h4p : ¬ ((((u : Nat) : Int) < ((ps.length : Nat) : Int))) := by first | (simpa using h4) | (have h4q := h4; simp at h4q; omega) | (have h4q := bx2 h4; simp at h4q; omega)
          have hge : u = ps.length := by omega
          refine aw_ex 1 ?_
          refine then_exit ?_
          refine then_exit ?_
          refine block_exit ?_
          refine then_normal ?_
          refine aw_p 63 (
            .a 1 1 <| .nil _ _) ?_
          refine aw_rt ?_
          exact en_ret [.int .i64 0] (show (.int .i64 0 : Value) = (.int .i64 (Sp.chkF ps)) from (congrArg (Value.int .i64) (show 0 = (Sp.chkF ps) from by (first | exact (Sp.chk_2 (by assumption)).symm | exact (Sp.chk_3 (by assumption) (by assumption)).symm | exact (Sp.chk_1 (by assumption) (by assumption) (by assumption)).symm | exact (Sp.chk_10 (by assumption) (by assumption) (by assumption) (Sp.allap_no hil hkl hk2 hu2 (by assumption))).symm | exact (Sp.chk_0 (by assumption) (by assumption) (by assumption) hge ha).symm))))
theorem chkn_own (ps : List (Int × Int)) (N : Nat) (hN : ps.length = N) (hz : N ≤ 9223372036854775807) : AC Try.prog 38 1 [.slice (some ⟨0, 0, none⟩) N 0] [(0, ⟨(ps.flatMap ptc), 28, true, 2⟩)] (.int .i64 (Sp.chkF ps)) [(0, ⟨(ps.flatMap ptc), 28, true, 2⟩)] := by
  subst hN
  exact chk_own ps hz
end Go.Proofs.Ytndkhgfecnbmnaa.Am

namespace Go.Proofs.Ytndkhgfecnbmnaa.Am
open Go Go.Proofs
set_option maxRecDepth 100000
set_option maxHeartbeats 4000000
set_option linter.unusedVariables false
set_option linter.unusedSimpArgs false
theorem acheck_n1 (R1 : List (Int × Int)) (zR1 : 1 ≤ R1.length ∧ R1.length ≤ 200) (fR1 : Sp.Few 1000 R1) (cR1 : Sp.chkF R1 = 0) :
    AC Try.prog 18 2 ([sV 0 1]) [(0, ⟨[sV 1 R1.length], 30, true, 1⟩), (1, (pB R1))] (.int .i64 0) [(0, ⟨[sV 1 R1.length], 30, true, 1⟩), (1, (pB R1))] := by
  refine ac_in Try.func18 (fun w0 W pin => ?_)
  refine aw_p 3 (
    .a 1 2 <| .nil _ _) ?_
  refine aw_sq 6 7 ?_
  refine aw_p 13 (
    .a 3 2 <| .nil _ _) ?_
  refine aw_fl 27 ?_
  refine aw_sk ?_
  refine then_normal ?_
  refine aw_sq 14 15 ?_
  refine aw_p 29 (
    .a 3 2 <| .nil _ _) ?_
  refine aw_bl 0 59 ?_
  refine aw_lp 119 ?_
  refine al_round ?_
  refine aw_p 239 (
    .a 1 2 <| .nil _ _) ?_
  refine aw_sq 478 479 ?_
  refine aw_tr 956 ?_
  refine aw_sk ?_
  refine then_normal ?_
  refine aw_sq 958 959 ?_
  refine aw_bl 1 1917 ?_
  refine aw_p 3835 (
    .a 3 2 <| .nil _ _) ?_
  refine aw_p 7671 (
    .a 1 2 <| .p (cS (m := 1) (args0 := [sV 0 R1.length]) (pre0 := [(0, (pB R1))]) (v0 := .int .i64 0) #[.tmp 19] #[30] [sV 1 R1.length] [1] [(1, (pB R1))] (.int .i64 0) ((by have h := chkn_own R1 R1.length rfl (by omega); rw [cR1] at h; exact h)) (.cons rS .nil) ⟨rfl, bP, trivial⟩ rF) <| .a 1 2 <| .nil _ _) ?_
  refine aw_p 15343 (
    .a 2 2 <| .nil _ _) ?_
  refine aw_fl 30687 ?_
  refine aw_sk ?_
  refine block_normal ?_
  refine then_normal ?_
  refine aw_p1 (
    .a 2 2 <| .nil _ _) ?_
  refine then_normal ?_
  refine al_round ?_
  refine aw_p 239 (
    .a 1 2 <| .nil _ _) ?_
  refine aw_sq 478 479 ?_
  refine aw_fl 957 ?_
  refine aw_ex 0 ?_
  refine then_exit ?_
  refine then_exit ?_
  refine block_exit ?_
  refine then_normal ?_
  refine aw_sq 30 31 ?_
  refine aw_p 61 (
    .a 3 2 <| .nil _ _) ?_
  refine aw_bl 2 123 ?_
  refine aw_lp 247 ?_
  refine al_round ?_
  refine aw_p 495 (
    .a 1 2 <| .nil _ _) ?_
  refine aw_sq 990 991 ?_
  refine aw_tr 1980 ?_
  refine aw_sk ?_
  refine then_normal ?_
  refine aw_sq 1982 1983 ?_
  refine aw_bl 3 3965 ?_
  refine aw_p 7931 (
    .a 5 2 <| .nil _ _) ?_
  refine aw_p 15863 (
    .a 2 2 <|
    .p (does_val (v' := sV 0 0) (does_slice (t := 25) (x := .tmp 32) (lo := none) (hi := some (.tmp 33)) (k := 0) (off := 0) (n := 1) (c := 0) (z := 1) (l := 0) (h := 0) (m := 0) (b := ⟨[sV 1 R1.length], 30, true, 1⟩) (by kernel_rfl) (by kernel_rfl) (by kernel_rfl) (by kernel_rfl) (by kernel_rfl) (by kernel_rfl) (by kernel_rfl) (by kernel_rfl) (by decide) (by decide) (by decide) (by decide)) (by kernel_rfl)) <|
    .a 2 2 <| .nil _ _) ?_
  refine aw_bl 4 31727 ?_
  refine aw_lp 63455 ?_
  refine al_round ?_
  refine aw_p 126911 (
    .a 1 2 <| .nil _ _) ?_
  refine aw_sq 253822 253823 ?_
  refine aw_fl 507645 ?_
  refine aw_ex 4 ?_
  refine then_exit ?_
  refine then_exit ?_
  refine block_exit ?_
  refine block_normal ?_
  refine then_normal ?_
  refine aw_p1 (
    .a 2 2 <| .nil _ _) ?_
  refine then_normal ?_
  refine al_round ?_
  refine aw_p 495 (
    .a 1 2 <| .nil _ _) ?_
  refine aw_sq 990 991 ?_
  refine aw_fl 1981 ?_
  refine aw_ex 2 ?_
  refine then_exit ?_
  refine then_exit ?_
  refine block_exit ?_
  refine then_normal ?_
  refine aw_p 63 (
    .a 1 2 <| .nil _ _) ?_
  refine aw_rt ?_
  exact en_ret [.int .i64 0] (by kernel_rfl)
theorem adepth_n1 (R1 : List (Int × Int)) (zR1 : 1 ≤ R1.length ∧ R1.length ≤ 200) (fR1 : Sp.Few 1000 R1) (cR1 : Sp.chkF R1 = 0) :
    AC Try.prog 13 2 ([sV 0 1]) [(0, ⟨[sV 1 R1.length], 30, true, 1⟩), (1, (pB R1))] (sV 2 1) [(0, ⟨[sV 1 R1.length], 30, true, 1⟩), (1, (pB R1)), (2, ⟨[.int .i64 0], 3, true, 1⟩)] := by
  refine ac_in Try.func13 (fun w0 W pin => ?_)
  refine aw_p 3 (
    .a 1 2 <| .nil _ _) ?_
  refine aw_sq 6 7 ?_
  refine aw_p 13 (
    .a 1 2 <| .p (cS #[.tmp 8] #[25] [sV 0 1] [0, 1] [(0, ⟨[sV 1 R1.length], 30, true, 1⟩), (1, (pB R1))] (.int .i64 0) (acheck_n1 R1 zR1 fR1 cR1) (.cons rS .nil) ⟨rfl, ⟨rfl, rfl, rfl, (.cons rS .nil)⟩, rfl, bP, trivial⟩ rF) <| .a 1 2 <| .nil _ _) ?_
  refine aw_fl 27 ?_
  refine aw_sk ?_
  refine then_normal ?_
  refine aw_p 15 (
    .a 2 2 <| .p (does_mk (kl := .i64) (kc := .i64) (n' := 1) (c' := 1) 2 3 1 8 1 1 (.int .i64 0) [.int .i64 0] (by kernel_rfl) (by kernel_rfl) (by kernel_rfl) (by kernel_rfl) (by decide) (by decide) (by decide) (by decide) (by decide)) <| .a 1 3 <| .nil _ _) ?_
  refine aw_sq 30 31 ?_
  refine aw_p 61 (
    .a 3 3 <| .nil _ _) ?_
  refine aw_bl 0 123 ?_
  refine aw_lp 247 ?_
  refine al_round ?_
  refine aw_p 495 (
    .a 1 3 <| .nil _ _) ?_
  refine aw_sq 990 991 ?_
  refine aw_tr 1980 ?_
  refine aw_sk ?_
  refine then_normal ?_
  refine aw_sq 1982 1983 ?_
  refine aw_bl 1 3965 ?_
  refine aw_p 7931 (
    .a 5 3 <| .nil _ _) ?_
  refine aw_p 15863 (
    .a 3 3 <| .nil _ _) ?_
  refine aw_bl 2 31727 ?_
  refine aw_lp 63455 ?_
  refine al_round ?_
  refine aw_p 126911 (
    .a 1 3 <| .nil _ _) ?_
  refine aw_sq 253822 253823 ?_
  refine aw_tr 507644 ?_
  refine aw_sk ?_
  refine then_normal ?_
  refine aw_sq 507646 507647 ?_
  refine aw_bl 3 1015293 ?_
  refine aw_p 2030587 (
    .a 5 3 <| .nil _ _) ?_
  refine aw_p 4061175 (
    .a 9 3 <| .nil _ _) ?_
  refine aw_fl 8122351 ?_
  refine aw_sk ?_
  refine block_normal ?_
  refine then_normal ?_
  refine aw_p1 (
    .a 2 3 <| .nil _ _) ?_
  refine then_normal ?_
  refine al_round ?_
  refine aw_p 126911 (
    .a 1 3 <| .nil _ _) ?_
  refine aw_sq 253822 253823 ?_
  refine aw_fl 507645 ?_
  refine aw_ex 2 ?_
  refine then_exit ?_
  refine then_exit ?_
  refine block_exit ?_
  refine block_normal ?_
  refine then_normal ?_
  refine aw_p1 (
    .a 2 3 <| .nil _ _) ?_
  refine then_normal ?_
  refine al_round ?_
  refine aw_p 495 (
    .a 1 3 <| .nil _ _) ?_
  refine aw_sq 990 991 ?_
  refine aw_fl 1981 ?_
  refine aw_ex 0 ?_
  refine then_exit ?_
  refine then_exit ?_
  refine block_exit ?_
  refine then_normal ?_
  refine aw_p 63 (
    .a 2 3 <| .nil _ _) ?_
  refine aw_rt ?_
  exact en_ret [sV 2 1] (by kernel_rfl)
theorem atwice_n1 (R1 : List (Int × Int)) (zR1 : 1 ≤ R1.length ∧ R1.length ≤ 200) (fR1 : Sp.Few 1000 R1) (cR1 : Sp.chkF R1 = 0) (a1 : Int) (t1 : Sp.twF R1 1 0 = a1) (b1 : -100000 ≤ a1 ∧ a1 ≤ 100000) :
    AC Try.prog 21 2 ([sV 0 1]) [(0, ⟨[sV 1 R1.length], 30, true, 1⟩), (1, (pB R1))] (.int .i64 (0 + (Sp.mx a1 (0 - a1)))) [(0, ⟨[sV 1 R1.length], 30, true, 1⟩), (1, (pB R1))] := by
  have m1 : 0 ≤ Sp.mx a1 (0 - a1) ∧ Sp.mx a1 (0 - a1) ≤ 100000 := (by unfold Sp.mx; split <;> omega)
  refine ac_in Try.func21 (fun w0 W pin => ?_)
  refine aw_p 3 (
    .a 1 2 <| .nil _ _) ?_
  refine aw_p 7 (
    .a 1 2 <| .nil _ _) ?_
  refine aw_sq 14 15 ?_
  refine aw_p 29 (
    .a 1 2 <|
    .p (cF #[.tmp 7] #[25] [sV 0 1] 1 [0, 1, 2] [(0, ⟨[sV 1 R1.length], 30, true, 1⟩), (1, (pB R1))] [(0, ⟨[sV 1 R1.length], 30, true, 1⟩), (1, (pB R1)), (2, ⟨[.int .i64 0], 3, true, 1⟩)] (sV 2 1) (adepth_n1 R1 zR1 fR1 cR1) (.cons rS .nil) ⟨rfl, ⟨rfl, rfl, rfl, (.cons rS .nil)⟩, rfl, bP, trivial⟩ ⟨rfl, ⟨rfl, rfl, rfl, (.cons rS .nil)⟩, rfl, bP, rfl, ⟨rfl, rfl, rfl, (.flats (by kernel_rfl))⟩, trivial⟩ rS) <|
    .a 2 3 <| .nil _ _) ?_
  refine aw_bl 0 59 ?_
  refine aw_lp 119 ?_
  refine al_round ?_
  refine aw_p 239 (
    .a 1 3 <| .nil _ _) ?_
  refine aw_sq 478 479 ?_
  refine aw_tr 956 ?_
  refine aw_sk ?_
  refine then_normal ?_
  refine aw_sq 958 959 ?_
  refine aw_bl 1 1917 ?_
  refine aw_p 3835 (
    .a 5 3 <| .nil _ _) ?_
  refine aw_p 7671 (
    .a 4 3 <| .p (cS (m := 1) (args0 := [sV 0 R1.length]) (pre0 := [(0, (pB R1))]) (v0 := .int .i64 a1) #[.tmp 18] #[30] [sV 1 R1.length] [1] [(1, (pB R1))] (.int .i64 a1) ((by have h := twicen_own R1 R1.length rfl (by omega); rw [t1] at h; exact h)) (.cons rS .nil) ⟨rfl, bP, trivial⟩ rF) <| .a 1 3 <| .nil _ _) ?_
  refine aw_p 15343 (
    .a 2 3 <| .p (does_i (0 - a1) (wrap_i64 (by omega) (by omega)) .i64) <| .a 2 3 <| .nil _ _) ?_
  refine aw_sq 30686 30687 ?_
  refine aw_p 61373 (
    .a 3 3 <| .nil _ _) ?_
  refine aw_fl 122747 ?_
  refine aw_sk ?_
  refine then_normal ?_
  refine aw_p1 (
    .a 2 3 <| .p (does_i (0 + (Sp.mx a1 (0 - a1))) (wrap_i64 (by omega) (by omega)) .i64) <| .a 1 3 <| .nil _ _) ?_
  refine block_normal ?_
  refine then_normal ?_
  refine aw_p1 (
    .a 2 3 <| .nil _ _) ?_
  refine then_normal ?_
  refine al_round ?_
  refine aw_p 239 (
    .a 1 3 <| .nil _ _) ?_
  refine aw_sq 478 479 ?_
  refine aw_fl 957 ?_
  refine aw_ex 0 ?_
  refine then_exit ?_
  refine then_exit ?_
  refine block_exit ?_
  refine then_normal ?_
  refine aw_p 31 (
    .a 2 3 <| .nil _ _) ?_
  refine aw_rt ?_
  exact en_ret [.int .i64 (0 + (Sp.mx a1 (0 - a1)))] (by kernel_rfl)
end Go.Proofs.Ytndkhgfecnbmnaa.Am

namespace Go.Proofs.Ytndkhgfecnbmnaa.Am
open Go Go.Proofs
set_option maxRecDepth 100000
set_option maxHeartbeats 4000000
set_option linter.unusedVariables false
set_option linter.unusedSimpArgs false
theorem Sp.ahF_0 {h o : Int} {t : List Int} (e : h = 0) : Sp.ahF (h :: t) o = 0 := by subst e; rfl
theorem Sp.ahF_1 {h o : Int} {t : List Int} (e : h = 1) : Sp.ahF (h :: t) o = Sp.ahF t (0 - o) := by subst e; rfl
theorem Sp.ahF_n {h o : Int} {t : List Int} (e : ¬ h = 0) (e1 : ¬ h = 1) : Sp.ahF (h :: t) o = Sp.ahF t o := by
  show (if (h == 0) = true then 0 else if (h == 1) = true then Sp.ahF t (0 - o) else Sp.ahF t o) = _
  rw [if_neg (by simpa using e), if_neg (by simpa using e1)]
theorem aw_joinB {ι : Type} {C : Ctx} {P : Program} {S : St} {S1 : ι → St} {x y : Code} {Q : Exit → St → Prop} {K : St → Prop} {id id' : Nat} (F : ι → Prop) (h : ∀ i, F i → AW C P y (S1 i) Q) (k : (∀ i, F i → AW C P y (S1 i) Q) → AW C P x S (blockQ id (blockQ id' (thenQ K Q)))) : AW C P x S (blockQ id (blockQ id' (thenQ K Q))) := k h
theorem ahas_1 (R1 : List (Int × Int)) (zR1 : 1 ≤ R1.length ∧ R1.length ≤ 200) (fR1 : Sp.Few 1000 R1) (px py : Int) :
    AC Try.prog 12 2 ([sV 0 1, .agg #[.int .i64 px, .int .i64 py]]) [(0, ⟨[sV 1 R1.length], 30, true, 1⟩), (1, (pB R1))] (.int .i64 (Sp.ahF [Sp.hasF R1 (Sp.lim 1048576 px) (Sp.lim 1048576 py) 0 (-1)] (-1))) [(0, ⟨[sV 1 R1.length], 30, true, 1⟩), (1, (pB R1))] := by
  refine ac_in Try.func12 (fun w0 W pin => ?_)
  refine aw_p 3 (
    .a 2 2 <| .nil _ _) ?_
  refine aw_p 7 (
    .a 1 3 <| .nil _ _) ?_
  refine aw_sq 14 15 ?_
  refine aw_p 29 (
    .a 3 3 <| .nil _ _) ?_
  refine aw_bl 0 59 ?_
  refine aw_lp 119 ?_
  refine al_round ?_
  refine aw_p 239 (
    .a 1 3 <| .nil _ _) ?_
  refine aw_sq 478 479 ?_
  refine aw_tr 956 ?_
  refine aw_sk ?_
  refine then_normal ?_
  refine aw_sq 958 959 ?_
  refine aw_bl 1 1917 ?_
  refine aw_p 3835 (
    .a 3 3 <| .nil _ _) ?_
  refine aw_p 7671 (
    .a 2 3 <|
    .p (cS #[.tmp 14, .tmp 15] #[30, 28] [sV 1 R1.length, .agg #[.int .i64 px, .int .i64 py]] [1] [(1, (pB R1))] (.int .i64 (Sp.hasF R1 (Sp.lim 1048576 px) (Sp.lim 1048576 py) 0 (-1))) (hasn_own R1 R1.length (rfl) (by first | omega | decide) px py) (.cons rS (.cons rF .nil)) ⟨rfl, bP, trivial⟩ rF) <| .nil _ _) ?_
  refine aw_bl 2 15343 ?_
  refine aw_p 30687 (
    .a 2 3 <| .nil _ _) ?_
  refine aw_cd 61374 61375 ((Sp.hasF R1 (Sp.lim 1048576 px) (Sp.lim 1048576 py) 0 (-1)) == 0) (fun h1 => ?_) (fun h1 => ?_)
  · have h1p : (((Sp.hasF R1 (Sp.lim 1048576 px) (Sp.lim 1048576 py) 0 (-1)) = 0)) := by first | (simpa using h1) | (have h1q := h1; simp at h1q; omega) | (have h1q := bx1 h1; simp at h1q; omega)
    refine aw_p 122749 (
      .a 1 3 <| .nil _ _) ?_
    refine aw_rt ?_
    refine block_ret ?_
    refine block_ret ?_
    refine then_ret ?_
    refine then_ret ?_
    refine block_ret ?_
    refine then_ret ?_
    exact en_ret [.int .i64 0] (show (.int .i64 0 : Value) = (.int .i64 (Sp.ahF [Sp.hasF R1 (Sp.lim 1048576 px) (Sp.lim 1048576 py) 0 (-1)] (-1))) from (congrArg (Value.int .i64) (show 0 = (Sp.ahF [Sp.hasF R1 (Sp.lim 1048576 px) (Sp.lim 1048576 py) 0 (-1)] (-1)) from by (first | exact (Sp.ahF_0 (by assumption)).symm | exact (q1.2).symm | fail))))
  · have h1p : ¬ (((Sp.hasF R1 (Sp.lim 1048576 px) (Sp.lim 1048576 py) 0 (-1)) = 0)) := by first | (simpa using h1) | (have h1q := h1; simp at h1q; omega) | (have h1q := bx2 h1; simp at h1q; omega)
    refine aw_p 122751 (
      .a 2 3 <| .nil _ _) ?_
    refine aw_joinB (y := sb Try.f12 959) (S1 := fun o1 => mkSt 2 [(3, .pointer (some ⟨2, 0, none⟩)), (5, .int .i64 o1), (8, sV 0 1), (9, .int .i64 1), (10, .int .i64 0)] [(0, ⟨[sV 1 R1.length], 30, true, 1⟩), (1, (pB R1)), (2, ⟨[.int .i64 px, .int .i64 py], 28, true, 2⟩)]) (fun o1 => (-1 ≤ o1 ∧ o1 ≤ 1) ∧ Sp.ahF [Sp.hasF R1 (Sp.lim 1048576 px) (Sp.lim 1048576 py) 0 (-1)] (-1) = Sp.ahF [] o1) (fun o1 q1 => ?_) (fun K1 => ?_)
    · refine aw_p1 (
        .a 2 3 <| .nil _ _) ?_
      refine then_normal ?_
      refine al_round ?_
      refine aw_p 239 (
        .a 1 3 <| .nil _ _) ?_
      refine aw_sq 478 479 ?_
      refine aw_fl 957 ?_
      refine aw_ex 0 ?_
      refine then_exit ?_
      refine then_exit ?_
      refine block_exit ?_
      refine then_normal ?_
      refine aw_p 31 (
        .a 2 3 <| .nil _ _) ?_
      refine aw_rt ?_
      exact en_ret [.int .i64 o1] (show (.int .i64 o1 : Value) = (.int .i64 (Sp.ahF [Sp.hasF R1 (Sp.lim 1048576 px) (Sp.lim 1048576 py) 0 (-1)] (-1))) from (congrArg (Value.int .i64) (show o1 = (Sp.ahF [Sp.hasF R1 (Sp.lim 1048576 px) (Sp.lim 1048576 py) 0 (-1)] (-1)) from by (first | exact (Sp.ahF_0 (by assumption)).symm | exact (q1.2).symm | fail))))
    · refine aw_cd 245502 245503 ((Sp.hasF R1 (Sp.lim 1048576 px) (Sp.lim 1048576 py) 0 (-1)) == 1) (fun h2 => ?_) (fun h2 => ?_)
      · have h2p : (((Sp.hasF R1 (Sp.lim 1048576 px) (Sp.lim 1048576 py) 0 (-1)) = 1)) := by first | (simpa using h2) | (have h2q := h2; simp at h2q; omega) | (have h2q := bx1 h2; simp at h2q; omega)
        refine aw_p1 (
          .a 3 3 <| .nil _ _) ?_
        refine block_normal ?_
        refine block_normal ?_
        refine then_normal ?_
        refine aw_w [(3, .pointer (some ⟨2, 0, none⟩)), (5, .int .i64 1), (8, sV 0 1), (9, .int .i64 1), (10, .int .i64 0)] [(0, ⟨[sV 1 R1.length], 30, true, 1⟩), (1, (pB R1)), (2, ⟨[.int .i64 px, .int .i64 py], 28, true, 2⟩)] ?_ (hc := (by simp [closedB, valsB, valB, List.all_eq_true, List.mem_flatMap, List.mem_range, List.mem_map, i64v, ptc, flat1]; try (intros; simp [valsB, valB, flat1]); try decide))
        exact K1 1 ⟨(by omega), Sp.ahF_1 h2p⟩
      · have h2p : ¬ (((Sp.hasF R1 (Sp.lim 1048576 px) (Sp.lim 1048576 py) 0 (-1)) = 1)) := by first | (simpa using h2) | (have h2q := h2; simp at h2q; omega) | (have h2q := bx2 h2; simp at h2q; omega)
        refine aw_sk ?_
        refine block_normal ?_
        refine block_normal ?_
        refine then_normal ?_
        refine aw_w [(3, .pointer (some ⟨2, 0, none⟩)), (5, .int .i64 (-1)), (8, sV 0 1), (9, .int .i64 1), (10, .int .i64 0)] [(0, ⟨[sV 1 R1.length], 30, true, 1⟩), (1, (pB R1)), (2, ⟨[.int .i64 px, .int .i64 py], 28, true, 2⟩)] ?_ (hc := (by simp [closedB, valsB, valB, List.all_eq_true, List.mem_flatMap, List.mem_range, List.mem_map, i64v, ptc, flat1]; try (intros; simp [valsB, valB, flat1]); try decide))
        exact K1 (-1) ⟨(by omega), Sp.ahF_n (by assumption) h2p⟩
theorem ahas_2 (R1 R2 : List (Int × Int)) (zR1 : 1 ≤ R1.length ∧ R1.length ≤ 200) (fR1 : Sp.Few 1000 R1) (zR2 : 1 ≤ R2.length ∧ R2.length ≤ 200) (fR2 : Sp.Few 1000 R2) (px py : Int) :
    AC Try.prog 12 3 ([sV 0 2, .agg #[.int .i64 px, .int .i64 py]]) [(0, ⟨[sV 1 R1.length, sV 2 R2.length], 30, true, 1⟩), (1, (pB R1)), (2, (pB R2))] (.int .i64 (Sp.ahF [Sp.hasF R1 (Sp.lim 1048576 px) (Sp.lim 1048576 py) 0 (-1), Sp.hasF R2 (Sp.lim 1048576 px) (Sp.lim 1048576 py) 0 (-1)] (-1))) [(0, ⟨[sV 1 R1.length, sV 2 R2.length], 30, true, 1⟩), (1, (pB R1)), (2, (pB R2))] := by
  refine ac_in Try.func12 (fun w0 W pin => ?_)
  refine aw_p 3 (
    .a 2 3 <| .nil _ _) ?_
  refine aw_p 7 (
    .a 1 4 <| .nil _ _) ?_
  refine aw_sq 14 15 ?_
  refine aw_p 29 (
    .a 3 4 <| .nil _ _) ?_
  refine aw_bl 0 59 ?_
  refine aw_lp 119 ?_
  refine al_round ?_
  refine aw_p 239 (
    .a 1 4 <| .nil _ _) ?_
  refine aw_sq 478 479 ?_
  refine aw_tr 956 ?_
  refine aw_sk ?_
  refine then_normal ?_
  refine aw_sq 958 959 ?_
  refine aw_bl 1 1917 ?_
  refine aw_p 3835 (
    .a 3 4 <| .nil _ _) ?_
  refine aw_p 7671 (
    .a 2 4 <|
    .p (cS #[.tmp 14, .tmp 15] #[30, 28] [sV 1 R1.length, .agg #[.int .i64 px, .int .i64 py]] [1] [(1, (pB R1))] (.int .i64 (Sp.hasF R1 (Sp.lim 1048576 px) (Sp.lim 1048576 py) 0 (-1))) (hasn_own R1 R1.length (rfl) (by first | omega | decide) px py) (.cons rS (.cons rF .nil)) ⟨rfl, bP, trivial⟩ rF) <| .nil _ _) ?_
  refine aw_bl 2 15343 ?_
  refine aw_p 30687 (
    .a 2 4 <| .nil _ _) ?_
  refine aw_cd 61374 61375 ((Sp.hasF R1 (Sp.lim 1048576 px) (Sp.lim 1048576 py) 0 (-1)) == 0) (fun h1 => ?_) (fun h1 => ?_)
  · have h1p : (((Sp.hasF R1 (Sp.lim 1048576 px) (Sp.lim 1048576 py) 0 (-1)) = 0)) := by first | (simpa using h1) | (have h1q := h1; simp at h1q; omega) | (have h1q := bx1 h1; simp at h1q; omega)
    refine aw_p 122749 (
      .a 1 4 <| .nil _ _) ?_
    refine aw_rt ?_
    refine block_ret ?_
    refine block_ret ?_
    refine then_ret ?_
    refine then_ret ?_
    refine block_ret ?_
    refine then_ret ?_
    exact en_ret [.int .i64 0] (show (.int .i64 0 : Value) = (.int .i64 (Sp.ahF [Sp.hasF R1 (Sp.lim 1048576 px) (Sp.lim 1048576 py) 0 (-1), Sp.hasF R2 (Sp.lim 1048576 px) (Sp.lim 1048576 py) 0 (-1)] (-1))) from (congrArg (Value.int .i64) (show 0 = (Sp.ahF [Sp.hasF R1 (Sp.lim 1048576 px) (Sp.lim 1048576 py) 0 (-1), Sp.hasF R2 (Sp.lim 1048576 px) (Sp.lim 1048576 py) 0 (-1)] (-1)) from by (first | exact (Sp.ahF_0 (by assumption)).symm | exact (q2.2).symm | exact (q1.2.trans (Sp.ahF_0 (by assumption))).symm))))
  · have h1p : ¬ (((Sp.hasF R1 (Sp.lim 1048576 px) (Sp.lim 1048576 py) 0 (-1)) = 0)) := by first | (simpa using h1) | (have h1q := h1; simp at h1q; omega) | (have h1q := bx2 h1; simp at h1q; omega)
    refine aw_p 122751 (
      .a 2 4 <| .nil _ _) ?_
    refine aw_joinB (y := sb Try.f12 959) (S1 := fun o1 => mkSt 3 [(3, .pointer (some ⟨3, 0, none⟩)), (5, .int .i64 o1), (8, sV 0 2), (9, .int .i64 2), (10, .int .i64 0)] [(0, ⟨[sV 1 R1.length, sV 2 R2.length], 30, true, 1⟩), (1, (pB R1)), (2, (pB R2)), (3, ⟨[.int .i64 px, .int .i64 py], 28, true, 2⟩)]) (fun o1 => (-1 ≤ o1 ∧ o1 ≤ 1) ∧ Sp.ahF [Sp.hasF R1 (Sp.lim 1048576 px) (Sp.lim 1048576 py) 0 (-1), Sp.hasF R2 (Sp.lim 1048576 px) (Sp.lim 1048576 py) 0 (-1)] (-1) = Sp.ahF [Sp.hasF R2 (Sp.lim 1048576 px) (Sp.lim 1048576 py) 0 (-1)] o1) (fun o1 q1 => ?_) (fun K1 => ?_)
    · refine aw_p1 (
        .a 2 4 <| .nil _ _) ?_
      refine then_normal ?_
      refine al_round ?_
      refine aw_p 239 (
        .a 1 4 <| .nil _ _) ?_
      refine aw_sq 478 479 ?_
      refine aw_tr 956 ?_
      refine aw_sk ?_
      refine then_normal ?_
      refine aw_sq 958 959 ?_
      refine aw_bl 1 1917 ?_
      refine aw_p 3835 (
        .a 3 4 <| .nil _ _) ?_
      refine aw_p 7671 (
        .a 2 4 <|
        .p (cS #[.tmp 14, .tmp 15] #[30, 28] [sV 2 R2.length, .agg #[.int .i64 px, .int .i64 py]] [2] [(2, (pB R2))] (.int .i64 (Sp.hasF R2 (Sp.lim 1048576 px) (Sp.lim 1048576 py) 0 (-1))) (hasn_own R2 R2.length (rfl) (by first | omega | decide) px py) (.cons rS (.cons rF .nil)) ⟨rfl, bP, trivial⟩ rF) <| .nil _ _) ?_
      refine aw_bl 2 15343 ?_
      refine aw_p 30687 (
        .a 2 4 <| .nil _ _) ?_
      refine aw_cd 61374 61375 ((Sp.hasF R2 (Sp.lim 1048576 px) (Sp.lim 1048576 py) 0 (-1)) == 0) (fun h2 => ?_) (fun h2 => ?_)
      · have h2p : (((Sp.hasF R2 (Sp.lim 1048576 px) (Sp.lim 1048576 py) 0 (-1)) = 0)) := by first | (simpa using h2) | (have h2q := h2; simp at h2q; omega) | (have h2q := bx1 h2; simp at h2q; omega)
        refine aw_p 122749 (
          .a 1 4 <| .nil _ _) ?_
        refine aw_rt ?_
        refine block_ret ?_
        refine block_ret ?_
        refine then_ret ?_
        refine then_ret ?_
        refine block_ret ?_
        refine then_ret ?_
        exact en_ret [.int .i64 0] (show (.int .i64 0 : Value) = (.int .i64 (Sp.ahF [Sp.hasF R1 (Sp.lim 1048576 px) (Sp.lim 1048576 py) 0 (-1), Sp.hasF R2 (Sp.lim 1048576 px) (Sp.lim 1048576 py) 0 (-1)] (-1))) from (congrArg (Value.int .i64) (show 0 = (Sp.ahF [Sp.hasF R1 (Sp.lim 1048576 px) (Sp.lim 1048576 py) 0 (-1), Sp.hasF R2 (Sp.lim 1048576 px) (Sp.lim 1048576 py) 0 (-1)] (-1)) from by (first | exact (Sp.ahF_0 (by assumption)).symm | exact (q2.2).symm | exact (q1.2.trans (Sp.ahF_0 (by assumption))).symm))))
      · have h2p : ¬ (((Sp.hasF R2 (Sp.lim 1048576 px) (Sp.lim 1048576 py) 0 (-1)) = 0)) := by first | (simpa using h2) | (have h2q := h2; simp at h2q; omega) | (have h2q := bx2 h2; simp at h2q; omega)
        refine aw_p 122751 (
          .a 2 4 <| .nil _ _) ?_
        refine aw_joinB (y := sb Try.f12 959) (S1 := fun o2 => mkSt 3 [(3, .pointer (some ⟨3, 0, none⟩)), (5, .int .i64 o2), (8, sV 0 2), (9, .int .i64 2), (10, .int .i64 1)] [(0, ⟨[sV 1 R1.length, sV 2 R2.length], 30, true, 1⟩), (1, (pB R1)), (2, (pB R2)), (3, ⟨[.int .i64 px, .int .i64 py], 28, true, 2⟩)]) (fun o2 => (-1 ≤ o2 ∧ o2 ≤ 1) ∧ Sp.ahF [Sp.hasF R1 (Sp.lim 1048576 px) (Sp.lim 1048576 py) 0 (-1), Sp.hasF R2 (Sp.lim 1048576 px) (Sp.lim 1048576 py) 0 (-1)] (-1) = Sp.ahF [] o2) (fun o2 q2 => ?_) (fun K2 => ?_)
        · refine aw_p1 (
            .a 2 4 <| .nil _ _) ?_
          refine then_normal ?_
          refine al_round ?_
          refine aw_p 239 (
            .a 1 4 <| .nil _ _) ?_
          refine aw_sq 478 479 ?_
          refine aw_fl 957 ?_
          refine aw_ex 0 ?_
          refine then_exit ?_
          refine then_exit ?_
          refine block_exit ?_
          refine then_normal ?_
          refine aw_p 31 (
            .a 2 4 <| .nil _ _) ?_
          refine aw_rt ?_
          exact en_ret [.int .i64 o2] (show (.int .i64 o2 : Value) = (.int .i64 (Sp.ahF [Sp.hasF R1 (Sp.lim 1048576 px) (Sp.lim 1048576 py) 0 (-1), Sp.hasF R2 (Sp.lim 1048576 px) (Sp.lim 1048576 py) 0 (-1)] (-1))) from (congrArg (Value.int .i64) (show o2 = (Sp.ahF [Sp.hasF R1 (Sp.lim 1048576 px) (Sp.lim 1048576 py) 0 (-1), Sp.hasF R2 (Sp.lim 1048576 px) (Sp.lim 1048576 py) 0 (-1)] (-1)) from by (first | exact (Sp.ahF_0 (by assumption)).symm | exact (q2.2).symm | exact (q1.2.trans (Sp.ahF_0 (by assumption))).symm))))
        · refine aw_cd 245502 245503 ((Sp.hasF R2 (Sp.lim 1048576 px) (Sp.lim 1048576 py) 0 (-1)) == 1) (fun h3 => ?_) (fun h3 => ?_)
          · have h3p : (((Sp.hasF R2 (Sp.lim 1048576 px) (Sp.lim 1048576 py) 0 (-1)) = 1)) := by first | (simpa using h3) | (have h3q := h3; simp at h3q; omega) | (have h3q := bx1 h3; simp at h3q; omega)
            refine aw_p1 (
              .a 1 4 <| .p (does_i (0 - o1) (wrap_i64 (by omega) (by omega)) .i64) <| .a 1 4 <| .nil _ _) ?_
            refine block_normal ?_
            refine block_normal ?_
            refine then_normal ?_
            refine aw_w [(3, .pointer (some ⟨3, 0, none⟩)), (5, .int .i64 (0 - o1)), (8, sV 0 2), (9, .int .i64 2), (10, .int .i64 1)] [(0, ⟨[sV 1 R1.length, sV 2 R2.length], 30, true, 1⟩), (1, (pB R1)), (2, (pB R2)), (3, ⟨[.int .i64 px, .int .i64 py], 28, true, 2⟩)] ?_ (hc := (by simp [closedB, valsB, valB, List.all_eq_true, List.mem_flatMap, List.mem_range, List.mem_map, i64v, ptc, flat1]; try (intros; simp [valsB, valB, flat1]); try decide))
            exact K2 (0 - o1) ⟨(by omega), q1.2.trans (Sp.ahF_1 h3p)⟩
          · have h3p : ¬ (((Sp.hasF R2 (Sp.lim 1048576 px) (Sp.lim 1048576 py) 0 (-1)) = 1)) := by first | (simpa using h3) | (have h3q := h3; simp at h3q; omega) | (have h3q := bx2 h3; simp at h3q; omega)
            refine aw_sk ?_
            refine block_normal ?_
            refine block_normal ?_
            refine then_normal ?_
            refine aw_w [(3, .pointer (some ⟨3, 0, none⟩)), (5, .int .i64 o1), (8, sV 0 2), (9, .int .i64 2), (10, .int .i64 1)] [(0, ⟨[sV 1 R1.length, sV 2 R2.length], 30, true, 1⟩), (1, (pB R1)), (2, (pB R2)), (3, ⟨[.int .i64 px, .int .i64 py], 28, true, 2⟩)] ?_ (hc := (by simp [closedB, valsB, valB, List.all_eq_true, List.mem_flatMap, List.mem_range, List.mem_map, i64v, ptc, flat1]; try (intros; simp [valsB, valB, flat1]); try decide))
            exact K2 o1 ⟨(by omega), q1.2.trans (Sp.ahF_n (by assumption) h3p)⟩
    · refine aw_cd 245502 245503 ((Sp.hasF R1 (Sp.lim 1048576 px) (Sp.lim 1048576 py) 0 (-1)) == 1) (fun h4 => ?_) (fun h4 => ?_)
      · have h4p : (((Sp.hasF R1 (Sp.lim 1048576 px) (Sp.lim 1048576 py) 0 (-1)) = 1)) := by first | (simpa using h4) | (have h4q := h4; simp at h4q; omega) | (have h4q := bx1 h4; simp at h4q; omega)
        refine aw_p1 (
          .a 3 4 <| .nil _ _) ?_
        refine block_normal ?_
        refine block_normal ?_
        refine then_normal ?_
        refine aw_w [(3, .pointer (some ⟨3, 0, none⟩)), (5, .int .i64 1), (8, sV 0 2), (9, .int .i64 2), (10, .int .i64 0)] [(0, ⟨[sV 1 R1.length, sV 2 R2.length], 30, true, 1⟩), (1, (pB R1)), (2, (pB R2)), (3, ⟨[.int .i64 px, .int .i64 py], 28, true, 2⟩)] ?_ (hc := (by simp [closedB, valsB, valB, List.all_eq_true, List.mem_flatMap, List.mem_range, List.mem_map, i64v, ptc, flat1]; try (intros; simp [valsB, valB, flat1]); try decide))
        exact K1 1 ⟨(by omega), Sp.ahF_1 h4p⟩
      · have h4p : ¬ (((Sp.hasF R1 (Sp.lim 1048576 px) (Sp.lim 1048576 py) 0 (-1)) = 1)) := by first | (simpa using h4) | (have h4q := h4; simp at h4q; omega) | (have h4q := bx2 h4; simp at h4q; omega)
        refine aw_sk ?_
        refine block_normal ?_
        refine block_normal ?_
        refine then_normal ?_
        refine aw_w [(3, .pointer (some ⟨3, 0, none⟩)), (5, .int .i64 (-1)), (8, sV 0 2), (9, .int .i64 2), (10, .int .i64 0)] [(0, ⟨[sV 1 R1.length, sV 2 R2.length], 30, true, 1⟩), (1, (pB R1)), (2, (pB R2)), (3, ⟨[.int .i64 px, .int .i64 py], 28, true, 2⟩)] ?_ (hc := (by simp [closedB, valsB, valB, List.all_eq_true, List.mem_flatMap, List.mem_range, List.mem_map, i64v, ptc, flat1]; try (intros; simp [valsB, valB, flat1]); try decide))
        exact K1 (-1) ⟨(by omega), Sp.ahF_n (by assumption) h4p⟩
theorem ahas_3 (R1 R2 R3 : List (Int × Int)) (zR1 : 1 ≤ R1.length ∧ R1.length ≤ 200) (fR1 : Sp.Few 1000 R1) (zR2 : 1 ≤ R2.length ∧ R2.length ≤ 200) (fR2 : Sp.Few 1000 R2) (zR3 : 1 ≤ R3.length ∧ R3.length ≤ 200) (fR3 : Sp.Few 1000 R3) (px py : Int) :
    AC Try.prog 12 4 ([sV 0 3, .agg #[.int .i64 px, .int .i64 py]]) [(0, ⟨[sV 1 R1.length, sV 2 R2.length, sV 3 R3.length], 30, true, 1⟩), (1, (pB R1)), (2, (pB R2)), (3, (pB R3))] (.int .i64 (Sp.ahF [Sp.hasF R1 (Sp.lim 1048576 px) (Sp.lim 1048576 py) 0 (-1), Sp.hasF R2 (Sp.lim 1048576 px) (Sp.lim 1048576 py) 0 (-1), Sp.hasF R3 (Sp.lim 1048576 px) (Sp.lim 1048576 py) 0 (-1)] (-1))) [(0, ⟨[sV 1 R1.length, sV 2 R2.length, sV 3 R3.length], 30, true, 1⟩), (1, (pB R1)), (2, (pB R2)), (3, (pB R3))] := by
  refine ac_in Try.func12 (fun w0 W pin => ?_)
  refine aw_p 3 (
    .a 2 4 <| .nil _ _) ?_
  refine aw_p 7 (
    .a 1 5 <| .nil _ _) ?_
  refine aw_sq 14 15 ?_
  refine aw_p 29 (
    .a 3 5 <| .nil _ _) ?_
  refine aw_bl 0 59 ?_
  refine aw_lp 119 ?_
  refine al_round ?_
  refine aw_p 239 (
    .a 1 5 <| .nil _ _) ?_
  refine aw_sq 478 479 ?_
  refine aw_tr 956 ?_
  refine aw_sk ?_
  refine then_normal ?_
  refine aw_sq 958 959 ?_
  refine aw_bl 1 1917 ?_
  refine aw_p 3835 (
    .a 3 5 <| .nil _ _) ?_
  refine aw_p 7671 (
    .a 2 5 <|
    .p (cS #[.tmp 14, .tmp 15] #[30, 28] [sV 1 R1.length, .agg #[.int .i64 px, .int .i64 py]] [1] [(1, (pB R1))] (.int .i64 (Sp.hasF R1 (Sp.lim 1048576 px) (Sp.lim 1048576 py) 0 (-1))) (hasn_own R1 R1.length (rfl) (by first | omega | decide) px py) (.cons rS (.cons rF .nil)) ⟨rfl, bP, trivial⟩ rF) <| .nil _ _) ?_
  refine aw_bl 2 15343 ?_
  refine aw_p 30687 (
    .a 2 5 <| .nil _ _) ?_
  refine aw_cd 61374 61375 ((Sp.hasF R1 (Sp.lim 1048576 px) (Sp.lim 1048576 py) 0 (-1)) == 0) (fun h1 => ?_) (fun h1 => ?_)
  · have h1p : (((Sp.hasF R1 (Sp.lim 1048576 px) (Sp.lim 1048576 py) 0 (-1)) = 0)) := by first | (simpa using h1) | (have h1q := h1; simp at h1q; omega) | (have h1q := bx1 h1; simp at h1q; omega)
    refine aw_p 122749 (
      .a 1 5 <| .nil _ _) ?_
    refine aw_rt ?_
    refine block_ret ?_
    refine block_ret ?_
    refine then_ret ?_
    refine then_ret ?_
    refine block_ret ?_
    refine then_ret ?_
    exact en_ret [.int .i64 0] (show (.int .i64 0 : Value) = (.int .i64 (Sp.ahF [Sp.hasF R1 (Sp.lim 1048576 px) (Sp.lim 1048576 py) 0 (-1), Sp.hasF R2 (Sp.lim 1048576 px) (Sp.lim 1048576 py) 0 (-1), Sp.hasF R3 (Sp.lim 1048576 px) (Sp.lim 1048576 py) 0 (-1)] (-1))) from (congrArg (Value.int .i64) (show 0 = (Sp.ahF [Sp.hasF R1 (Sp.lim 1048576 px) (Sp.lim 1048576 py) 0 (-1), Sp.hasF R2 (Sp.lim 1048576 px) (Sp.lim 1048576 py) 0 (-1), Sp.hasF R3 (Sp.lim 1048576 px) (Sp.lim 1048576 py) 0 (-1)] (-1)) from by (first | exact (Sp.ahF_0 (by assumption)).symm | exact (q3.2).symm | exact (q2.2.trans (Sp.ahF_0 (by assumption))).symm | exact (q1.2.trans (Sp.ahF_0 (by assumption))).symm))))
  · have h1p : ¬ (((Sp.hasF R1 (Sp.lim 1048576 px) (Sp.lim 1048576 py) 0 (-1)) = 0)) := by first | (simpa using h1) | (have h1q := h1; simp at h1q; omega) | (have h1q := bx2 h1; simp at h1q; omega)
    refine aw_p 122751 (
      .a 2 5 <| .nil _ _) ?_
    refine aw_joinB (y := sb Try.f12 959) (S1 := fun o1 => mkSt 4 [(3, .pointer (some ⟨4, 0, none⟩)), (5, .int .i64 o1), (8, sV 0 3), (9, .int .i64 3), (10, .int .i64 0)] [(0, ⟨[sV 1 R1.length, sV 2 R2.length, sV 3 R3.length], 30, true, 1⟩), (1, (pB R1)), (2, (pB R2)), (3, (pB R3)), (4, ⟨[.int .i64 px, .int .i64 py], 28, true, 2⟩)]) (fun o1 => (-1 ≤ o1 ∧ o1 ≤ 1) ∧ Sp.ahF [Sp.hasF R1 (Sp.lim 1048576 px) (Sp.lim 1048576 py) 0 (-1), Sp.hasF R2 (Sp.lim 1048576 px) (Sp.lim 1048576 py) 0 (-1), Sp.hasF R3 (Sp.lim 1048576 px) (Sp.lim 1048576 py) 0 (-1)] (-1) = Sp.ahF [Sp.hasF R2 (Sp.lim 1048576 px) (Sp.lim 1048576 py) 0 (-1), Sp.hasF R3 (Sp.lim 1048576 px) (Sp.lim 1048576 py) 0 (-1)] o1) (fun o1 q1 => ?_) (fun K1 => ?_)
    · refine aw_p1 (
        .a 2 5 <| .nil _ _) ?_
      refine then_normal ?_
      refine al_round ?_
      refine aw_p 239 (
        .a 1 5 <| .nil _ _) ?_
      refine aw_sq 478 479 ?_
      refine aw_tr 956 ?_
      refine aw_sk ?_
      refine then_normal ?_
      refine aw_sq 958 959 ?_
      refine aw_bl 1 1917 ?_
      refine aw_p 3835 (
        .a 3 5 <| .nil _ _) ?_
      refine aw_p 7671 (
        .a 2 5 <|
        .p (cS #[.tmp 14, .tmp 15] #[30, 28] [sV 2 R2.length, .agg #[.int .i64 px, .int .i64 py]] [2] [(2, (pB R2))] (.int .i64 (Sp.hasF R2 (Sp.lim 1048576 px) (Sp.lim 1048576 py) 0 (-1))) (hasn_own R2 R2.length (rfl) (by first | omega | decide) px py) (.cons rS (.cons rF .nil)) ⟨rfl, bP, trivial⟩ rF) <| .nil _ _) ?_
      refine aw_bl 2 15343 ?_
      refine aw_p 30687 (
        .a 2 5 <| .nil _ _) ?_
      refine aw_cd 61374 61375 ((Sp.hasF R2 (Sp.lim 1048576 px) (Sp.lim 1048576 py) 0 (-1)) == 0) (fun h2 => ?_) (fun h2 => ?_)
      · have h2p : (((Sp.hasF R2 (Sp.lim 1048576 px) (Sp.lim 1048576 py) 0 (-1)) = 0)) := by first | (simpa using h2) | (have h2q := h2; simp at h2q; omega) | (have h2q := bx1 h2; simp at h2q; omega)
        refine aw_p 122749 (
          .a 1 5 <| .nil _ _) ?_
        refine aw_rt ?_
        refine block_ret ?_
        refine block_ret ?_
        refine then_ret ?_
        refine then_ret ?_
        refine block_ret ?_
        refine then_ret ?_
        exact en_ret [.int .i64 0] (show (.int .i64 0 : Value) = (.int .i64 (Sp.ahF [Sp.hasF R1 (Sp.lim 1048576 px) (Sp.lim 1048576 py) 0 (-1), Sp.hasF R2 (Sp.lim 1048576 px) (Sp.lim 1048576 py) 0 (-1), Sp.hasF R3 (Sp.lim 1048576 px) (Sp.lim 1048576 py) 0 (-1)] (-1))) from (congrArg (Value.int .i64) (show 0 = (Sp.ahF [Sp.hasF R1 (Sp.lim 1048576 px) (Sp.lim 1048576 py) 0 (-1), Sp.hasF R2 (Sp.lim 1048576 px) (Sp.lim 1048576 py) 0 (-1), Sp.hasF R3 (Sp.lim 1048576 px) (Sp.lim 1048576 py) 0 (-1)] (-1)) from by (first | exact (Sp.ahF_0 (by assumption)).symm | exact (q3.2).symm | exact (q2.2.trans (Sp.ahF_0 (by assumption))).symm | exact (q1.2.trans (Sp.ahF_0 (by assumption))).symm))))
      · have h2p : ¬ (((Sp.hasF R2 (Sp.lim 1048576 px) (Sp.lim 1048576 py) 0 (-1)) = 0)) := by first | (simpa using h2) | (have h2q := h2; simp at h2q; omega) | (have h2q := bx2 h2; simp at h2q; omega)
        refine aw_p 122751 (
          .a 2 5 <| .nil _ _) ?_
        refine aw_joinB (y := sb Try.f12 959) (S1 := fun o2 => mkSt 4 [(3, .pointer (some ⟨4, 0, none⟩)), (5, .int .i64 o2), (8, sV 0 3), (9, .int .i64 3), (10, .int .i64 1)] [(0, ⟨[sV 1 R1.length, sV 2 R2.length, sV 3 R3.length], 30, true, 1⟩), (1, (pB R1)), (2, (pB R2)), (3, (pB R3)), (4, ⟨[.int .i64 px, .int .i64 py], 28, true, 2⟩)]) (fun o2 => (-1 ≤ o2 ∧ o2 ≤ 1) ∧ Sp.ahF [Sp.hasF R1 (Sp.lim 1048576 px) (Sp.lim 1048576 py) 0 (-1), Sp.hasF R2 (Sp.lim 1048576 px) (Sp.lim 1048576 py) 0 (-1), Sp.hasF R3 (Sp.lim 1048576 px) (Sp.lim 1048576 py) 0 (-1)] (-1) = Sp.ahF [Sp.hasF R3 (Sp.lim 1048576 px) (Sp.lim 1048576 py) 0 (-1)] o2) (fun o2 q2 => ?_) (fun K2 => ?_)
        · refine aw_p1 (
            .a 2 5 <| .nil _ _) ?_
          refine then_normal ?_
          refine al_round ?_
          refine aw_p 239 (
            .a 1 5 <| .nil _ _) ?_
          refine aw_sq 478 479 ?_
          refine aw_tr 956 ?_
          refine aw_sk ?_
          refine then_normal ?_
          refine aw_sq 958 959 ?_
          refine aw_bl 1 1917 ?_
          refine aw_p 3835 (
            .a 3 5 <| .nil _ _) ?_
          refine aw_p 7671 (
            .a 2 5 <|
            .p (cS #[.tmp 14, .tmp 15] #[30, 28] [sV 3 R3.length, .agg #[.int .i64 px, .int .i64 py]] [3] [(3, (pB R3))] (.int .i64 (Sp.hasF R3 (Sp.lim 1048576 px) (Sp.lim 1048576 py) 0 (-1))) (hasn_own R3 R3.length (rfl) (by first | omega | decide) px py) (.cons rS (.cons rF .nil)) ⟨rfl, bP, trivial⟩ rF) <| .nil _ _) ?_
          refine aw_bl 2 15343 ?_
          refine aw_p 30687 (
            .a 2 5 <| .nil _ _) ?_
          refine aw_cd 61374 61375 ((Sp.hasF R3 (Sp.lim 1048576 px) (Sp.lim 1048576 py) 0 (-1)) == 0) (fun h3 => ?_) (fun h3 => ?_)
          · have h3p : (((Sp.hasF R3 (Sp.lim 1048576 px) (Sp.lim 1048576 py) 0 (-1)) = 0)) := by first | (simpa using h3) | (have h3q := h3; simp at h3q; omega) | (have h3q := bx1 h3; simp at h3q; omega)
            refine aw_p 122749 (
              .a 1 5 <| .nil _ _) ?_
            refine aw_rt ?_
            refine block_ret ?_
            refine block_ret ?_
            refine then_ret ?_
            refine then_ret ?_
            refine block_ret ?_
            refine then_ret ?_
            exact en_ret [.int .i64 0] (show (.int .i64 0 : Value) = (.int .i64 (Sp.ahF [Sp.hasF R1 (Sp.lim 1048576 px) (Sp.lim 1048576 py) 0 (-1), Sp.hasF R2 (Sp.lim 1048576 px) (Sp.lim 1048576 py) 0 (-1), Sp.hasF R3 (Sp.lim 1048576 px) (Sp.lim 1048576 py) 0 (-1)] (-1))) from (congrArg (Value.int .i64) (show 0 = (Sp.ahF [Sp.hasF R1 (Sp.lim 1048576 px) (Sp.lim 1048576 py) 0 (-1), Sp.hasF R2 (Sp.lim 1048576 px) (Sp.lim 1048576 py) 0 (-1), Sp.hasF R3 (Sp.lim 1048576 px) (Sp.lim 1048576 py) 0 (-1)] (-1)) from by (first | exact (Sp.ahF_0 (by assumption)).symm | exact (q3.2).symm | exact (q2.2.trans (Sp.ahF_0 (by assumption))).symm | exact (q1.2.trans (Sp.ahF_0 (by assumption))).symm))))
          · have h3p : ¬ (((Sp.hasF R3 (Sp.lim 1048576 px) (Sp.lim 1048576 py) 0 (-1)) = 0)) := by first | (simpa using h3) | (have h3q := h3; simp at h3q; omega) | (have h3q := bx2 h3; simp at h3q; omega)
            refine aw_p 122751 (
              .a 2 5 <| .nil _ _) ?_
            refine aw_joinB (y := sb Try.f12 959) (S1 := fun o3 => mkSt 4 [(3, .pointer (some ⟨4, 0, none⟩)), (5, .int .i64 o3), (8, sV 0 3), (9, .int .i64 3), (10, .int .i64 2)] [(0, ⟨[sV 1 R1.length, sV 2 R2.length, sV 3 R3.length], 30, true, 1⟩), (1, (pB R1)), (2, (pB R2)), (3, (pB R3)), (4, ⟨[.int .i64 px, .int .i64 py], 28, true, 2⟩)]) (fun o3 => (-1 ≤ o3 ∧ o3 ≤ 1) ∧ Sp.ahF [Sp.hasF R1 (Sp.lim 1048576 px) (Sp.lim 1048576 py) 0 (-1), Sp.hasF R2 (Sp.lim 1048576 px) (Sp.lim 1048576 py) 0 (-1), Sp.hasF R3 (Sp.lim 1048576 px) (Sp.lim 1048576 py) 0 (-1)] (-1) = Sp.ahF [] o3) (fun o3 q3 => ?_) (fun K3 => ?_)
            · refine aw_p1 (
                .a 2 5 <| .nil _ _) ?_
              refine then_normal ?_
              refine al_round ?_
              refine aw_p 239 (
                .a 1 5 <| .nil _ _) ?_
              refine aw_sq 478 479 ?_
              refine aw_fl 957 ?_
              refine aw_ex 0 ?_
              refine then_exit ?_
              refine then_exit ?_
              refine block_exit ?_
              refine then_normal ?_
              refine aw_p 31 (
                .a 2 5 <| .nil _ _) ?_
              refine aw_rt ?_
              exact en_ret [.int .i64 o3] (show (.int .i64 o3 : Value) = (.int .i64 (Sp.ahF [Sp.hasF R1 (Sp.lim 1048576 px) (Sp.lim 1048576 py) 0 (-1), Sp.hasF R2 (Sp.lim 1048576 px) (Sp.lim 1048576 py) 0 (-1), Sp.hasF R3 (Sp.lim 1048576 px) (Sp.lim 1048576 py) 0 (-1)] (-1))) from (congrArg (Value.int .i64) (show o3 = (Sp.ahF [Sp.hasF R1 (Sp.lim 1048576 px) (Sp.lim 1048576 py) 0 (-1), Sp.hasF R2 (Sp.lim 1048576 px) (Sp.lim 1048576 py) 0 (-1), Sp.hasF R3 (Sp.lim 1048576 px) (Sp.lim 1048576 py) 0 (-1)] (-1)) from by (first | exact (Sp.ahF_0 (by assumption)).symm | exact (q3.2).symm | exact (q2.2.trans (Sp.ahF_0 (by assumption))).symm | exact (q1.2.trans (Sp.ahF_0 (by assumption))).symm))))
            · refine aw_cd 245502 245503 ((Sp.hasF R3 (Sp.lim 1048576 px) (Sp.lim 1048576 py) 0 (-1)) == 1) (fun h4 => ?_) (fun h4 => ?_)
              · have h4p : (((Sp.hasF R3 (Sp.lim 1048576 px) (Sp.lim 1048576 py) 0 (-1)) = 1)) := by first | (simpa using h4) | (have h4q := h4; simp at h4q; omega) | (have h4q := bx1 h4; simp at h4q; omega)
                refine aw_p1 (
                  .a 1 5 <| .p (does_i (0 - o2) (wrap_i64 (by omega) (by omega)) .i64) <| .a 1 5 <| .nil _ _) ?_
                refine block_normal ?_
                refine block_normal ?_
                refine then_normal ?_
                refine aw_w [(3, .pointer (some ⟨4, 0, none⟩)), (5, .int .i64 (0 - o2)), (8, sV 0 3), (9, .int .i64 3), (10, .int .i64 2)] [(0, ⟨[sV 1 R1.length, sV 2 R2.length, sV 3 R3.length], 30, true, 1⟩), (1, (pB R1)), (2, (pB R2)), (3, (pB R3)), (4, ⟨[.int .i64 px, .int .i64 py], 28, true, 2⟩)] ?_ (hc := (by simp [closedB, valsB, valB, List.all_eq_true, List.mem_flatMap, List.mem_range, List.mem_map, i64v, ptc, flat1]; try (intros; simp [valsB, valB, flat1]); try decide))
                exact K3 (0 - o2) ⟨(by omega), q2.2.trans (Sp.ahF_1 h4p)⟩
              · have h4p : ¬ (((Sp.hasF R3 (Sp.lim 1048576 px) (Sp.lim 1048576 py) 0 (-1)) = 1)) := by first | (simpa using h4) | (have h4q := h4; simp at h4q; omega) | (have h4q := bx2 h4; simp at h4q; omega)
                refine aw_sk ?_
                refine block_normal ?_
                refine block_normal ?_
                refine then_normal ?_
                refine aw_w [(3, .pointer (some ⟨4, 0, none⟩)), (5, .int .i64 o2), (8, sV 0 3), (9, .int .i64 3), (10, .int .i64 2)] [(0, ⟨[sV 1 R1.length, sV 2 R2.length, sV 3 R3.length], 30, true, 1⟩), (1, (pB R1)), (2, (pB R2)), (3, (pB R3)), (4, ⟨[.int .i64 px, .int .i64 py], 28, true, 2⟩)] ?_ (hc := (by simp [closedB, valsB, valB, List.all_eq_true, List.mem_flatMap, List.mem_range, List.mem_map, i64v, ptc, flat1]; try (intros; simp [valsB, valB, flat1]); try decide))
                exact K3 o2 ⟨(by omega), q2.2.trans (Sp.ahF_n (by assumption) h4p)⟩
        · refine aw_cd 245502 245503 ((Sp.hasF R2 (Sp.lim 1048576 px) (Sp.lim 1048576 py) 0 (-1)) == 1) (fun h5 => ?_) (fun h5 => ?_)
          · have h5p : (((Sp.hasF R2 (Sp.lim 1048576 px) (Sp.lim 1048576 py) 0 (-1)) = 1)) := by first | (simpa using h5) | (have h5q := h5; simp at h5q; omega) | (have h5q := bx1 h5; simp at h5q; omega)
            refine aw_p1 (
              .a 1 5 <| .p (does_i (0 - o1) (wrap_i64 (by omega) (by omega)) .i64) <| .a 1 5 <| .nil _ _) ?_
            refine block_normal ?_
            refine block_normal ?_
            refine then_normal ?_
            refine aw_w [(3, .pointer (some ⟨4, 0, none⟩)), (5, .int .i64 (0 - o1)), (8, sV 0 3), (9, .int .i64 3), (10, .int .i64 1)] [(0, ⟨[sV 1 R1.length, sV 2 R2.length, sV 3 R3.length], 30, true, 1⟩), (1, (pB R1)), (2, (pB R2)), (3, (pB R3)), (4, ⟨[.int .i64 px, .int .i64 py], 28, true, 2⟩)] ?_ (hc := (by simp [closedB, valsB, valB, List.all_eq_true, List.mem_flatMap, List.mem_range, List.mem_map, i64v, ptc, flat1]; try (intros; simp [valsB, valB, flat1]); try decide))
            exact K2 (0 - o1) ⟨(by omega), q1.2.trans (Sp.ahF_1 h5p)⟩
          · have h5p : ¬ (((Sp.hasF R2 (Sp.lim 1048576 px) (Sp.lim 1048576 py) 0 (-1)) = 1)) := by first | (simpa using h5) | (have h5q := h5; simp at h5q; omega) | (have h5q := bx2 h5; simp at h5q; omega)
            refine aw_sk ?_
            refine block_normal ?_
            refine block_normal ?_
            refine then_normal ?_
            refine aw_w [(3, .pointer (some ⟨4, 0, none⟩)), (5, .int .i64 o1), (8, sV 0 3), (9, .int .i64 3), (10, .int .i64 1)] [(0, ⟨[sV 1 R1.length, sV 2 R2.length, sV 3 R3.length], 30, true, 1⟩), (1, (pB R1)), (2, (pB R2)), (3, (pB R3)), (4, ⟨[.int .i64 px, .int .i64 py], 28, true, 2⟩)] ?_ (hc := (by simp [closedB, valsB, valB, List.all_eq_true, List.mem_flatMap, List.mem_range, List.mem_map, i64v, ptc, flat1]; try (intros; simp [valsB, valB, flat1]); try decide))
            exact K2 o1 ⟨(by omega), q1.2.trans (Sp.ahF_n (by assumption) h5p)⟩
    · refine aw_cd 245502 245503 ((Sp.hasF R1 (Sp.lim 1048576 px) (Sp.lim 1048576 py) 0 (-1)) == 1) (fun h6 => ?_) (fun h6 => ?_)
      · have h6p : (((Sp.hasF R1 (Sp.lim 1048576 px) (Sp.lim 1048576 py) 0 (-1)) = 1)) := by first | (simpa using h6) | (have h6q := h6; simp at h6q; omega) | (have h6q := bx1 h6; simp at h6q; omega)
        refine aw_p1 (
          .a 3 5 <| .nil _ _) ?_
        refine block_normal ?_
        refine block_normal ?_
        refine then_normal ?_
        refine aw_w [(3, .pointer (some ⟨4, 0, none⟩)), (5, .int .i64 1), (8, sV 0 3), (9, .int .i64 3), (10, .int .i64 0)] [(0, ⟨[sV 1 R1.length, sV 2 R2.length, sV 3 R3.length], 30, true, 1⟩), (1, (pB R1)), (2, (pB R2)), (3, (pB R3)), (4, ⟨[.int .i64 px, .int .i64 py], 28, true, 2⟩)] ?_ (hc := (by simp [closedB, valsB, valB, List.all_eq_true, List.mem_flatMap, List.mem_range, List.mem_map, i64v, ptc, flat1]; try (intros; simp [valsB, valB, flat1]); try decide))
        exact K1 1 ⟨(by omega), Sp.ahF_1 h6p⟩
      · have h6p : ¬ (((Sp.hasF R1 (Sp.lim 1048576 px) (Sp.lim 1048576 py) 0 (-1)) = 1)) := by first | (simpa using h6) | (have h6q := h6; simp at h6q; omega) | (have h6q := bx2 h6; simp at h6q; omega)
        refine aw_sk ?_
        refine block_normal ?_
        refine block_normal ?_
        refine then_normal ?_
        refine aw_w [(3, .pointer (some ⟨4, 0, none⟩)), (5, .int .i64 (-1)), (8, sV 0 3), (9, .int .i64 3), (10, .int .i64 0)] [(0, ⟨[sV 1 R1.length, sV 2 R2.length, sV 3 R3.length], 30, true, 1⟩), (1, (pB R1)), (2, (pB R2)), (3, (pB R3)), (4, ⟨[.int .i64 px, .int .i64 py], 28, true, 2⟩)] ?_ (hc := (by simp [closedB, valsB, valB, List.all_eq_true, List.mem_flatMap, List.mem_range, List.mem_map, i64v, ptc, flat1]; try (intros; simp [valsB, valB, flat1]); try decide))
        exact K1 (-1) ⟨(by omega), Sp.ahF_n (by assumption) h6p⟩
end Go.Proofs.Ytndkhgfecnbmnaa.Am

namespace Go.Proofs.Ytndkhgfecnbmnaa.Am
open Go Go.Proofs
set_option maxRecDepth 100000
set_option maxHeartbeats 4000000
set_option linter.unusedVariables false
set_option linter.unusedSimpArgs false
theorem equal_ok (ps : List (Int × Int)) (hz : ps.length ≤ 4096) :
    AC Try.prog 30 2 ([sV 0 ps.length, sV 1 ps.length]) [(0, (pB ps)), (1, (pB ps))] (.bool true) [(0, (pB ps)), (1, (pB ps))] := by
  refine ac_in Try.func30 (fun w0 W pin => ?_)
  refine aw_p 3 (
    .a 1 2 <| .nil _ _) ?_
  refine aw_sq 6 7 ?_
  refine aw_p 13 (
    .a 4 2 <| .p (does_b false ((show (((ps.length : Nat) : Int) != ((ps.length : Nat) : Int)) = false from by simp))) <| .nil _ _) ?_
  refine aw_fl 27 ?_
  refine aw_sk ?_
  refine then_normal ?_
  refine aw_sq 14 15 ?_
  refine aw_p 29 (
    .a 3 2 <| .nil _ _) ?_
  refine aw_bl 0 59 ?_
  refine aw_lp 119 ?_
  refine al_w [(0, sV 0 ps.length), (1, sV 1 ps.length), (12, .int .i64 ((ps.length : Nat) : Int)), (13, .int .i64 ((0 : Nat) : Int))] [(0, (pB ps)), (1, (pB ps))] ?_ (hc := (by simp [closedB, valsB, valB, List.all_eq_true, List.mem_flatMap, List.mem_range, List.mem_map, i64v, ptc, flat1]; try (intros; simp [valsB, valB, flat1]); try decide))
  refine al_ind (fun i : Nat => (fun (i : Nat) => mkSt 2 [(0, sV 0 ps.length), (1, sV 1 ps.length), (12, .int .i64 ((ps.length : Nat) : Int)), (13, .int .i64 ((i : Nat) : Int))] [(0, (pB ps)), (1, (pB ps))]) i) (fun i : Nat => (fun (i : Nat) => (i ≤ ps.length)) i) (fun i : Nat => (fun (i : Nat) => ps.length - i) i) (fun i hi1 ih1 => ?_) 0 (show (0 ≤ ps.length) from by omega)
  obtain ⟨i, hv1⟩ : ∃ z, z = i := ⟨i, rfl⟩; subst hv1
  have hi1' : (i ≤ ps.length) := hi1
  have hi : i ≤ ps.length := hi1'
  show AL _ _ _ (mkSt 2 [(0, sV 0 ps.length), (1, sV 1 ps.length), (12, .int .i64 ((ps.length : Nat) : Int)), (13, .int .i64 ((i : Nat) : Int))] [(0, (pB ps)), (1, (pB ps))]) _
  refine al_round ?_
  refine aw_p 239 (
    .a 1 2 <| .nil _ _) ?_
  refine aw_sq 478 479 ?_
  refine aw_cd 956 957 (decide (((i : Nat) : Int) < ((ps.length : Nat) : Int))) (fun h1 => ?_) (fun h1 => ?_)
  · have h1p : ((((i : Nat) : Int) < ((ps.length : Nat) : Int))) := by first | (simpa using h1) | (have h1q := h1; simp at h1q; omega) | (have h1q := bx1 h1; simp at h1q; omega)
    refine aw_sk ?_
    refine then_normal ?_
    refine aw_sq 958 959 ?_
    refine aw_bl 1 1917 ?_
    refine aw_p 3835 (
      .a 2 2 <| .nil _ _) ?_
    refine aw_d 7671 (
      .a 2 2 <| .p (does_indexSlice (t := 30) (x := .tmp 16) (y := .tmp 17) (k := 0) (off := 0) (n := ps.length) (c := 0) (z := 2) (kd := .i64) (j := ((i : Nat) : Int)) (by kernel_rfl) (by kernel_rfl) (by kernel_rfl) (by kernel_rfl) (by kernel_rfl) (by omega) (by omega)) <|
      .p (does_load (t := 28) (x := .tmp 18) (k := 0) (off := (0 + (((i : Nat) : Int)).toNat * 2)) (b := (pB ps)) (v := .agg #[.int .i64 ((ps.getD i (0, 0)).1), .int .i64 ((ps.getD i (0, 0)).2)]) (by kernel_rfl) (by kernel_rfl) (by kernel_rfl) (ldV_pair (j := i) (by kernel_rfl) (by kernel_rfl) (by omega) (by omega))) <|
      .a 2 2 <| .p (does_indexSlice (t := 30) (x := .tmp 20) (y := .tmp 21) (k := 1) (off := 0) (n := ps.length) (c := 0) (z := 2) (kd := .i64) (j := ((i : Nat) : Int)) (by kernel_rfl) (by kernel_rfl) (by kernel_rfl) (by kernel_rfl) (by kernel_rfl) (by omega) (by omega)) <|
      .p (does_load (t := 28) (x := .tmp 22) (k := 1) (off := (0 + (((i : Nat) : Int)).toNat * 2)) (b := (pB ps)) (v := .agg #[.int .i64 ((ps.getD i (0, 0)).1), .int .i64 ((ps.getD i (0, 0)).2)]) (by kernel_rfl) (by kernel_rfl) (by kernel_rfl) (ldV_pair (j := i) (by kernel_rfl) (by kernel_rfl) (by omega) (by omega))) <|
      .p (does_e false ((show (!((((ps.getD i (0, 0)).1) == ((ps.getD i (0, 0)).1)) && ((((ps.getD i (0, 0)).2) == ((ps.getD i (0, 0)).2)) && true))) = false from by simp))) <| .nil _ _) ?_
    refine aw_fl 15343 ?_
    refine aw_sk ?_
    refine block_normal ?_
    refine then_normal ?_
    refine aw_p1 (
      .p (does_i (((i : Nat) : Int) + 1) (wrap_i64 (by omega) (by omega)) .i64) <| .a 1 2 <| .nil _ _) ?_
    refine then_normal ?_
    refine al_w [(0, sV 0 ps.length), (1, sV 1 ps.length), (12, .int .i64 ((ps.length : Nat) : Int)), (13, .int .i64 (((i + 1) : Nat) : Int))] [(0, (pB ps)), (1, (pB ps))] ?_ (hc := (by simp [closedB, valsB, valB, List.all_eq_true, List.mem_flatMap, List.mem_range, List.mem_map, i64v, ptc, flat1]; try (intros; simp [valsB, valB, flat1]); try decide))
    exact ih1 (i + 1) (show ((i + 1) ≤ ps.length) from by omega) (show ps.length - (i + 1) < ps.length - i from by omega)
  · have h1p : ¬ ((((i : Nat) : Int) < ((ps.length : Nat) : Int))) := by first | (simpa using h1) | (have h1q := h1; simp at h1q; omega) | (have h1q := bx2 h1; simp at h1q; omega)
    refine aw_ex 0 ?_
    refine then_exit ?_
    refine then_exit ?_
    refine block_exit ?_
    refine then_normal ?_
    refine aw_p 31 (
      .a 1 2 <| .nil _ _) ?_
    refine aw_rt ?_
    exact en_ret [.bool true] (by kernel_rfl)
theorem eqf_1 (R1 : List (Int × Int)) (zR1 : 1 ≤ R1.length ∧ R1.length ≤ 200) :
    AC Try.prog 28 4 ([sV 0 1, sV 2 1, .func (.func 30) #[] #[]]) [(0, ⟨[sV 1 R1.length], 30, true, 1⟩), (1, (pB R1)), (2, ⟨[sV 3 R1.length], 30, true, 1⟩), (3, (pB R1))] (.bool true) [(0, ⟨[sV 1 R1.length], 30, true, 1⟩), (1, (pB R1)), (2, ⟨[sV 3 R1.length], 30, true, 1⟩), (3, (pB R1))] := by
  refine ac_in Try.func28 (fun w0 W pin => ?_)
  refine aw_p 3 (
    .a 1 4 <| .nil _ _) ?_
  refine aw_sq 6 7 ?_
  refine aw_p 13 (
    .a 5 4 <| .nil _ _) ?_
  refine aw_fl 27 ?_
  refine aw_sk ?_
  refine then_normal ?_
  refine aw_sq 14 15 ?_
  refine aw_p 29 (
    .a 3 4 <| .nil _ _) ?_
  refine aw_bl 0 59 ?_
  refine aw_lp 119 ?_
  refine al_round ?_
  refine aw_p 239 (
    .a 1 4 <| .nil _ _) ?_
  refine aw_sq 478 479 ?_
  refine aw_tr 956 ?_
  refine aw_sk ?_
  refine then_normal ?_
  refine aw_sq 958 959 ?_
  refine aw_bl 1 1917 ?_
  refine aw_p 3835 (
    .a 5 4 <| .nil _ _) ?_
  refine aw_p 7671 (
    .a 5 4 <| .nil _ _) ?_
  refine aw_p 15343 (
    .a 3 4 <|
    .p (does_callB (x := .tmp 26) (ars := #[.tmp 27, .tmp 28]) (ats := #[30, 30]) (g := 30) (vs := [sV 1 R1.length, sV 3 R1.length]) (m := 2) (r := 0) (firsts := #[]) (caps := #[]) (args0 := [sV 0 R1.length, sV 1 R1.length]) (pre0 := [(0, (pB R1)), (1, (pB R1))]) (post0 := [(0, (pB R1)), (1, (pB R1))]) (pre := [(1, (pB R1)), (3, (pB R1))]) (post := [(1, (pB R1)), (3, (pB R1))]) (v0 := .bool true) (v := .bool true) [1, 3] (by kernel_rfl) (by kernel_rfl) (by kernel_rfl) (by kernel_rfl) (equal_ok R1 (by omega)) (.cons rS (.cons rS .nil)) ⟨rfl, bP, rfl, bP, trivial⟩ (by kernel_rfl) (by kernel_rfl) (by kernel_rfl) ⟨rfl, bP, rfl, bP, trivial⟩ rF) <|
    .a 1 4 <| .nil _ _) ?_
  refine aw_fl 30687 ?_
  refine aw_sk ?_
  refine block_normal ?_
  refine then_normal ?_
  refine aw_p1 (
    .a 2 4 <| .nil _ _) ?_
  refine then_normal ?_
  refine al_round ?_
  refine aw_p 239 (
    .a 1 4 <| .nil _ _) ?_
  refine aw_sq 478 479 ?_
  refine aw_fl 957 ?_
  refine aw_ex 0 ?_
  refine then_exit ?_
  refine then_exit ?_
  refine block_exit ?_
  refine then_normal ?_
  refine aw_p 31 (
    .a 1 4 <| .nil _ _) ?_
  refine aw_rt ?_
  exact en_ret [.bool true] (by kernel_rfl)
theorem eqf_2 (R1 R2 : List (Int × Int)) (zR1 : 1 ≤ R1.length ∧ R1.length ≤ 200) (zR2 : 1 ≤ R2.length ∧ R2.length ≤ 200) :
    AC Try.prog 28 6 ([sV 0 2, sV 3 2, .func (.func 30) #[] #[]]) [(0, ⟨[sV 1 R1.length, sV 2 R2.length], 30, true, 1⟩), (1, (pB R1)), (2, (pB R2)), (3, ⟨[sV 4 R1.length, sV 5 R2.length], 30, true, 1⟩), (4, (pB R1)), (5, (pB R2))] (.bool true) [(0, ⟨[sV 1 R1.length, sV 2 R2.length], 30, true, 1⟩), (1, (pB R1)), (2, (pB R2)), (3, ⟨[sV 4 R1.length, sV 5 R2.length], 30, true, 1⟩), (4, (pB R1)), (5, (pB R2))] := by
  refine ac_in Try.func28 (fun w0 W pin => ?_)
  refine aw_p 3 (
    .a 1 6 <| .nil _ _) ?_
  refine aw_sq 6 7 ?_
  refine aw_p 13 (
    .a 5 6 <| .nil _ _) ?_
  refine aw_fl 27 ?_
  refine aw_sk ?_
  refine then_normal ?_
  refine aw_sq 14 15 ?_
  refine aw_p 29 (
    .a 3 6 <| .nil _ _) ?_
  refine aw_bl 0 59 ?_
  refine aw_lp 119 ?_
  refine al_round ?_
  refine aw_p 239 (
    .a 1 6 <| .nil _ _) ?_
  refine aw_sq 478 479 ?_
  refine aw_tr 956 ?_
  refine aw_sk ?_
  refine then_normal ?_
  refine aw_sq 958 959 ?_
  refine aw_bl 1 1917 ?_
  refine aw_p 3835 (
    .a 5 6 <| .nil _ _) ?_
  refine aw_p 7671 (
    .a 5 6 <| .nil _ _) ?_
  refine aw_p 15343 (
    .a 3 6 <|
    .p (does_callB (x := .tmp 26) (ars := #[.tmp 27, .tmp 28]) (ats := #[30, 30]) (g := 30) (vs := [sV 1 R1.length, sV 4 R1.length]) (m := 2) (r := 0) (firsts := #[]) (caps := #[]) (args0 := [sV 0 R1.length, sV 1 R1.length]) (pre0 := [(0, (pB R1)), (1, (pB R1))]) (post0 := [(0, (pB R1)), (1, (pB R1))]) (pre := [(1, (pB R1)), (4, (pB R1))]) (post := [(1, (pB R1)), (4, (pB R1))]) (v0 := .bool true) (v := .bool true) [1, 4] (by kernel_rfl) (by kernel_rfl) (by kernel_rfl) (by kernel_rfl) (equal_ok R1 (by omega)) (.cons rS (.cons rS .nil)) ⟨rfl, bP, rfl, bP, trivial⟩ (by kernel_rfl) (by kernel_rfl) (by kernel_rfl) ⟨rfl, bP, rfl, bP, trivial⟩ rF) <|
    .a 1 6 <| .nil _ _) ?_
  refine aw_fl 30687 ?_
  refine aw_sk ?_
  refine block_normal ?_
  refine then_normal ?_
  refine aw_p1 (
    .a 2 6 <| .nil _ _) ?_
  refine then_normal ?_
  refine al_round ?_
  refine aw_p 239 (
    .a 1 6 <| .nil _ _) ?_
  refine aw_sq 478 479 ?_
  refine aw_tr 956 ?_
  refine aw_sk ?_
  refine then_normal ?_
  refine aw_sq 958 959 ?_
  refine aw_bl 1 1917 ?_
  refine aw_p 3835 (
    .a 5 6 <| .nil _ _) ?_
  refine aw_p 7671 (
    .a 5 6 <| .nil _ _) ?_
  refine aw_p 15343 (
    .a 3 6 <|
    .p (does_callB (x := .tmp 26) (ars := #[.tmp 27, .tmp 28]) (ats := #[30, 30]) (g := 30) (vs := [sV 2 R2.length, sV 5 R2.length]) (m := 2) (r := 0) (firsts := #[]) (caps := #[]) (args0 := [sV 0 R2.length, sV 1 R2.length]) (pre0 := [(0, (pB R2)), (1, (pB R2))]) (post0 := [(0, (pB R2)), (1, (pB R2))]) (pre := [(2, (pB R2)), (5, (pB R2))]) (post := [(2, (pB R2)), (5, (pB R2))]) (v0 := .bool true) (v := .bool true) [2, 5] (by kernel_rfl) (by kernel_rfl) (by kernel_rfl) (by kernel_rfl) (equal_ok R2 (by omega)) (.cons rS (.cons rS .nil)) ⟨rfl, bP, rfl, bP, trivial⟩ (by kernel_rfl) (by kernel_rfl) (by kernel_rfl) ⟨rfl, bP, rfl, bP, trivial⟩ rF) <|
    .a 1 6 <| .nil _ _) ?_
  refine aw_fl 30687 ?_
  refine aw_sk ?_
  refine block_normal ?_
  refine then_normal ?_
  refine aw_p1 (
    .a 2 6 <| .nil _ _) ?_
  refine then_normal ?_
  refine al_round ?_
  refine aw_p 239 (
    .a 1 6 <| .nil _ _) ?_
  refine aw_sq 478 479 ?_
  refine aw_fl 957 ?_
  refine aw_ex 0 ?_
  refine then_exit ?_
  refine then_exit ?_
  refine block_exit ?_
  refine then_normal ?_
  refine aw_p 31 (
    .a 1 6 <| .nil _ _) ?_
  refine aw_rt ?_
  exact en_ret [.bool true] (by kernel_rfl)
theorem eqf_3 (R1 R2 R3 : List (Int × Int)) (zR1 : 1 ≤ R1.length ∧ R1.length ≤ 200) (zR2 : 1 ≤ R2.length ∧ R2.length ≤ 200) (zR3 : 1 ≤ R3.length ∧ R3.length ≤ 200) :
    AC Try.prog 28 8 ([sV 0 3, sV 4 3, .func (.func 30) #[] #[]]) [(0, ⟨[sV 1 R1.length, sV 2 R2.length, sV 3 R3.length], 30, true, 1⟩), (1, (pB R1)), (2, (pB R2)), (3, (pB R3)), (4, ⟨[sV 5 R1.length, sV 6 R2.length, sV 7 R3.length], 30, true, 1⟩), (5, (pB R1)), (6, (pB R2)), (7, (pB R3))] (.bool true) [(0, ⟨[sV 1 R1.length, sV 2 R2.length, sV 3 R3.length], 30, true, 1⟩), (1, (pB R1)), (2, (pB R2)), (3, (pB R3)), (4, ⟨[sV 5 R1.length, sV 6 R2.length, sV 7 R3.length], 30, true, 1⟩), (5, (pB R1)), (6, (pB R2)), (7, (pB R3))] := by
  refine ac_in Try.func28 (fun w0 W pin => ?_)
  refine aw_p 3 (
    .a 1 8 <| .nil _ _) ?_
  refine aw_sq 6 7 ?_
  refine aw_p 13 (
    .a 5 8 <| .nil _ _) ?_
  refine aw_fl 27 ?_
  refine aw_sk ?_
  refine then_normal ?_
  refine aw_sq 14 15 ?_
  refine aw_p 29 (
    .a 3 8 <| .nil _ _) ?_
  refine aw_bl 0 59 ?_
  refine aw_lp 119 ?_
  refine al_round ?_
  refine aw_p 239 (
    .a 1 8 <| .nil _ _) ?_
  refine aw_sq 478 479 ?_
  refine aw_tr 956 ?_
  refine aw_sk ?_
  refine then_normal ?_
  refine aw_sq 958 959 ?_
  refine aw_bl 1 1917 ?_
  refine aw_p 3835 (
    .a 5 8 <| .nil _ _) ?_
  refine aw_p 7671 (
    .a 5 8 <| .nil _ _) ?_
  refine aw_p 15343 (
    .a 3 8 <|
    .p (does_callB (x := .tmp 26) (ars := #[.tmp 27, .tmp 28]) (ats := #[30, 30]) (g := 30) (vs := [sV 1 R1.length, sV 5 R1.length]) (m := 2) (r := 0) (firsts := #[]) (caps := #[]) (args0 := [sV 0 R1.length, sV 1 R1.length]) (pre0 := [(0, (pB R1)), (1, (pB R1))]) (post0 := [(0, (pB R1)), (1, (pB R1))]) (pre := [(1, (pB R1)), (5, (pB R1))]) (post := [(1, (pB R1)), (5, (pB R1))]) (v0 := .bool true) (v := .bool true) [1, 5] (by kernel_rfl) (by kernel_rfl) (by kernel_rfl) (by kernel_rfl) (equal_ok R1 (by omega)) (.cons rS (.cons rS .nil)) ⟨rfl, bP, rfl, bP, trivial⟩ (by kernel_rfl) (by kernel_rfl) (by kernel_rfl) ⟨rfl, bP, rfl, bP, trivial⟩ rF) <|
    .a 1 8 <| .nil _ _) ?_
  refine aw_fl 30687 ?_
  refine aw_sk ?_
  refine block_normal ?_
  refine then_normal ?_
  refine aw_p1 (
    .a 2 8 <| .nil _ _) ?_
  refine then_normal ?_
  refine al_round ?_
  refine aw_p 239 (
    .a 1 8 <| .nil _ _) ?_
  refine aw_sq 478 479 ?_
  refine aw_tr 956 ?_
  refine aw_sk ?_
  refine then_normal ?_
  refine aw_sq 958 959 ?_
  refine aw_bl 1 1917 ?_
  refine aw_p 3835 (
    .a 5 8 <| .nil _ _) ?_
  refine aw_p 7671 (
    .a 5 8 <| .nil _ _) ?_
  refine aw_p 15343 (
    .a 3 8 <|
    .p (does_callB (x := .tmp 26) (ars := #[.tmp 27, .tmp 28]) (ats := #[30, 30]) (g := 30) (vs := [sV 2 R2.length, sV 6 R2.length]) (m := 2) (r := 0) (firsts := #[]) (caps := #[]) (args0 := [sV 0 R2.length, sV 1 R2.length]) (pre0 := [(0, (pB R2)), (1, (pB R2))]) (post0 := [(0, (pB R2)), (1, (pB R2))]) (pre := [(2, (pB R2)), (6, (pB R2))]) (post := [(2, (pB R2)), (6, (pB R2))]) (v0 := .bool true) (v := .bool true) [2, 6] (by kernel_rfl) (by kernel_rfl) (by kernel_rfl) (by kernel_rfl) (equal_ok R2 (by omega)) (.cons rS (.cons rS .nil)) ⟨rfl, bP, rfl, bP, trivial⟩ (by kernel_rfl) (by kernel_rfl) (by kernel_rfl) ⟨rfl, bP, rfl, bP, trivial⟩ rF) <|
    .a 1 8 <| .nil _ _) ?_
  refine aw_fl 30687 ?_
  refine aw_sk ?_
  refine block_normal ?_
  refine then_normal ?_
  refine aw_p1 (
    .a 2 8 <| .nil _ _) ?_
  refine then_normal ?_
  refine al_round ?_
  refine aw_p 239 (
    .a 1 8 <| .nil _ _) ?_
  refine aw_sq 478 479 ?_
  refine aw_tr 956 ?_
  refine aw_sk ?_
  refine then_normal ?_
  refine aw_sq 958 959 ?_
  refine aw_bl 1 1917 ?_
  refine aw_p 3835 (
    .a 5 8 <| .nil _ _) ?_
  refine aw_p 7671 (
    .a 5 8 <| .nil _ _) ?_
  refine aw_p 15343 (
    .a 3 8 <|
    .p (does_callB (x := .tmp 26) (ars := #[.tmp 27, .tmp 28]) (ats := #[30, 30]) (g := 30) (vs := [sV 3 R3.length, sV 7 R3.length]) (m := 2) (r := 0) (firsts := #[]) (caps := #[]) (args0 := [sV 0 R3.length, sV 1 R3.length]) (pre0 := [(0, (pB R3)), (1, (pB R3))]) (post0 := [(0, (pB R3)), (1, (pB R3))]) (pre := [(3, (pB R3)), (7, (pB R3))]) (post := [(3, (pB R3)), (7, (pB R3))]) (v0 := .bool true) (v := .bool true) [3, 7] (by kernel_rfl) (by kernel_rfl) (by kernel_rfl) (by kernel_rfl) (equal_ok R3 (by omega)) (.cons rS (.cons rS .nil)) ⟨rfl, bP, rfl, bP, trivial⟩ (by kernel_rfl) (by kernel_rfl) (by kernel_rfl) ⟨rfl, bP, rfl, bP, trivial⟩ rF) <|
    .a 1 8 <| .nil _ _) ?_
  refine aw_fl 30687 ?_
  refine aw_sk ?_
  refine block_normal ?_
  refine then_normal ?_
  refine aw_p1 (
    .a 2 8 <| .nil _ _) ?_
  refine then_normal ?_
  refine al_round ?_
  refine aw_p 239 (
    .a 1 8 <| .nil _ _) ?_
  refine aw_sq 478 479 ?_
  refine aw_fl 957 ?_
  refine aw_ex 0 ?_
  refine then_exit ?_
  refine then_exit ?_
  refine block_exit ?_
  refine then_normal ?_
  refine aw_p 31 (
    .a 1 8 <| .nil _ _) ?_
  refine aw_rt ?_
  exact en_ret [.bool true] (by kernel_rfl)
end Go.Proofs.Ytndkhgfecnbmnaa.Am

namespace Go.Proofs.Ytndkhgfecnbmnaa.Am
open Go Go.Proofs
set_option maxRecDepth 100000
set_option maxHeartbeats 4000000
set_option linter.unusedVariables false
set_option linter.unusedSimpArgs false
theorem backward_1 (R1 : List (Int × Int)) :
    AC Try.prog 31 2 ([sV 0 1]) [(0, ⟨[sV 1 R1.length], 30, true, 1⟩), (1, (pB R1))] (.func (.func 73) #[] #[.pointer (some ⟨2, 0, none⟩)]) [(0, ⟨[sV 1 R1.length], 30, true, 1⟩), (1, (pB R1)), (2, ⟨[sV 0 1], 25, true, 1⟩)] := by
  refine ac_in Try.func31 (fun w0 W pin => ?_)
  refine aw_p 3 (
    .a 2 2 <| .nil _ _) ?_
  refine aw_p 7 (
    .a 2 3 <| .nil _ _) ?_
  refine aw_rt ?_
  exact en_ret [.func (.func 73) #[] #[.pointer (some ⟨2, 0, none⟩)]] (by kernel_rfl)
theorem backward_2 (R1 R2 : List (Int × Int)) :
    AC Try.prog 31 3 ([sV 0 2]) [(0, ⟨[sV 1 R1.length, sV 2 R2.length], 30, true, 1⟩), (1, (pB R1)), (2, (pB R2))] (.func (.func 73) #[] #[.pointer (some ⟨3, 0, none⟩)]) [(0, ⟨[sV 1 R1.length, sV 2 R2.length], 30, true, 1⟩), (1, (pB R1)), (2, (pB R2)), (3, ⟨[sV 0 2], 25, true, 1⟩)] := by
  refine ac_in Try.func31 (fun w0 W pin => ?_)
  refine aw_p 3 (
    .a 2 3 <| .nil _ _) ?_
  refine aw_p 7 (
    .a 2 4 <| .nil _ _) ?_
  refine aw_rt ?_
  exact en_ret [.func (.func 73) #[] #[.pointer (some ⟨3, 0, none⟩)]] (by kernel_rfl)
theorem backward_3 (R1 R2 R3 : List (Int × Int)) :
    AC Try.prog 31 4 ([sV 0 3]) [(0, ⟨[sV 1 R1.length, sV 2 R2.length, sV 3 R3.length], 30, true, 1⟩), (1, (pB R1)), (2, (pB R2)), (3, (pB R3))] (.func (.func 73) #[] #[.pointer (some ⟨4, 0, none⟩)]) [(0, ⟨[sV 1 R1.length, sV 2 R2.length, sV 3 R3.length], 30, true, 1⟩), (1, (pB R1)), (2, (pB R2)), (3, (pB R3)), (4, ⟨[sV 0 3], 25, true, 1⟩)] := by
  refine ac_in Try.func31 (fun w0 W pin => ?_)
  refine aw_p 3 (
    .a 2 4 <| .nil _ _) ?_
  refine aw_p 7 (
    .a 2 5 <| .nil _ _) ?_
  refine aw_rt ?_
  exact en_ret [.func (.func 73) #[] #[.pointer (some ⟨4, 0, none⟩)]] (by kernel_rfl)
end Go.Proofs.Ytndkhgfecnbmnaa.Am

namespace Go.Proofs.Ytndkhgfecnbmnaa.Am
open Go Go.Proofs
set_option maxRecDepth 100000
set_option maxHeartbeats 4000000
set_option linter.unusedVariables false
set_option linter.unusedSimpArgs false
theorem acheck_n2 (R1 R2 : List (Int × Int)) (zR1 : 1 ≤ R1.length ∧ R1.length ≤ 200) (fR1 : Sp.Few 1000 R1) (zR2 : 1 ≤ R2.length ∧ R2.length ≤ 200) (fR2 : Sp.Few 1000 R2) (cR1 : Sp.chkF R1 = 0) (cR2 : Sp.chkF R2 = 0) (F21 : Sp.Fit R2 R1 1 (-1)) :
    AC Try.prog 18 3 ([sV 0 2]) [(0, ⟨[sV 1 R1.length, sV 2 R2.length], 30, true, 1⟩), (1, (pB R1)), (2, (pB R2))] (.int .i64 0) [(0, ⟨[sV 1 R1.length, sV 2 R2.length], 30, true, 1⟩), (1, (pB R1)), (2, (pB R2))] := by
  refine ac_in Try.func18 (fun w0 W pin => ?_)
  refine aw_p 3 (
    .a 1 3 <| .nil _ _) ?_
  refine aw_sq 6 7 ?_
  refine aw_p 13 (
    .a 3 3 <| .nil _ _) ?_
  refine aw_fl 27 ?_
  refine aw_sk ?_
  refine then_normal ?_
  refine aw_sq 14 15 ?_
  refine aw_p 29 (
    .a 3 3 <| .nil _ _) ?_
  refine aw_bl 0 59 ?_
  refine aw_lp 119 ?_
  refine al_round ?_
  refine aw_p 239 (
    .a 1 3 <| .nil _ _) ?_
  refine aw_sq 478 479 ?_
  refine aw_tr 956 ?_
  refine aw_sk ?_
  refine then_normal ?_
  refine aw_sq 958 959 ?_
  refine aw_bl 1 1917 ?_
  refine aw_p 3835 (
    .a 3 3 <| .nil _ _) ?_
  refine aw_p 7671 (
    .a 1 3 <| .p (cS (m := 1) (args0 := [sV 0 R1.length]) (pre0 := [(0, (pB R1))]) (v0 := .int .i64 0) #[.tmp 19] #[30] [sV 1 R1.length] [1] [(1, (pB R1))] (.int .i64 0) ((by have h := chkn_own R1 R1.length rfl (by omega); rw [cR1] at h; exact h)) (.cons rS .nil) ⟨rfl, bP, trivial⟩ rF) <| .a 1 3 <| .nil _ _) ?_
  refine aw_p 15343 (
    .a 2 3 <| .nil _ _) ?_
  refine aw_fl 30687 ?_
  refine aw_sk ?_
  refine block_normal ?_
  refine then_normal ?_
  refine aw_p1 (
    .a 2 3 <| .nil _ _) ?_
  refine then_normal ?_
  refine al_round ?_
  refine aw_p 239 (
    .a 1 3 <| .nil _ _) ?_
  refine aw_sq 478 479 ?_
  refine aw_tr 956 ?_
  refine aw_sk ?_
  refine then_normal ?_
  refine aw_sq 958 959 ?_
  refine aw_bl 1 1917 ?_
  refine aw_p 3835 (
    .a 3 3 <| .nil _ _) ?_
  refine aw_p 7671 (
    .a 1 3 <| .p (cS (m := 1) (args0 := [sV 0 R2.length]) (pre0 := [(0, (pB R2))]) (v0 := .int .i64 0) #[.tmp 19] #[30] [sV 2 R2.length] [2] [(2, (pB R2))] (.int .i64 0) ((by have h := chkn_own R2 R2.length rfl (by omega); rw [cR2] at h; exact h)) (.cons rS .nil) ⟨rfl, bP, trivial⟩ rF) <| .a 1 3 <| .nil _ _) ?_
  refine aw_p 15343 (
    .a 2 3 <| .nil _ _) ?_
  refine aw_fl 30687 ?_
  refine aw_sk ?_
  refine block_normal ?_
  refine then_normal ?_
  refine aw_p1 (
    .a 2 3 <| .nil _ _) ?_
  refine then_normal ?_
  refine al_round ?_
  refine aw_p 239 (
    .a 1 3 <| .nil _ _) ?_
  refine aw_sq 478 479 ?_
  refine aw_fl 957 ?_
  refine aw_ex 0 ?_
  refine then_exit ?_
  refine then_exit ?_
  refine block_exit ?_
  refine then_normal ?_
  refine aw_sq 30 31 ?_
  refine aw_p 61 (
    .a 3 3 <| .nil _ _) ?_
  refine aw_bl 2 123 ?_
  refine aw_lp 247 ?_
  refine al_round ?_
  refine aw_p 495 (
    .a 1 3 <| .nil _ _) ?_
  refine aw_sq 990 991 ?_
  refine aw_tr 1980 ?_
  refine aw_sk ?_
  refine then_normal ?_
  refine aw_sq 1982 1983 ?_
  refine aw_bl 3 3965 ?_
  refine aw_p 7931 (
    .a 5 3 <| .nil _ _) ?_
  refine aw_p 15863 (
    .a 2 3 <|
    .p (does_val (v' := sV 0 0) (does_slice (t := 25) (x := .tmp 32) (lo := none) (hi := some (.tmp 33)) (k := 0) (off := 0) (n := 2) (c := 0) (z := 1) (l := 0) (h := 0) (m := 0) (b := ⟨[sV 1 R1.length, sV 2 R2.length], 30, true, 1⟩) (by kernel_rfl) (by kernel_rfl) (by kernel_rfl) (by kernel_rfl) (by kernel_rfl) (by kernel_rfl) (by kernel_rfl) (by kernel_rfl) (by decide) (by decide) (by decide) (by decide)) (by kernel_rfl)) <|
    .a 2 3 <| .nil _ _) ?_
  refine aw_bl 4 31727 ?_
  refine aw_lp 63455 ?_
  refine al_round ?_
  refine aw_p 126911 (
    .a 1 3 <| .nil _ _) ?_
  refine aw_sq 253822 253823 ?_
  refine aw_fl 507645 ?_
  refine aw_ex 4 ?_
  refine then_exit ?_
  refine then_exit ?_
  refine block_exit ?_
  refine block_normal ?_
  refine then_normal ?_
  refine aw_p1 (
    .a 2 3 <| .nil _ _) ?_
  refine then_normal ?_
  refine al_round ?_
  refine aw_p 495 (
    .a 1 3 <| .nil _ _) ?_
  refine aw_sq 990 991 ?_
  refine aw_tr 1980 ?_
  refine aw_sk ?_
  refine then_normal ?_
  refine aw_sq 1982 1983 ?_
  refine aw_bl 3 3965 ?_
  refine aw_p 7931 (
    .a 5 3 <| .nil _ _) ?_
  refine aw_p 15863 (
    .a 2 3 <|
    .p (does_val (v' := sV 0 1) (does_slice (t := 25) (x := .tmp 32) (lo := none) (hi := some (.tmp 33)) (k := 0) (off := 0) (n := 2) (c := 0) (z := 1) (l := 0) (h := 1) (m := 1) (b := ⟨[sV 1 R1.length, sV 2 R2.length], 30, true, 1⟩) (by kernel_rfl) (by kernel_rfl) (by kernel_rfl) (by kernel_rfl) (by kernel_rfl) (by kernel_rfl) (by kernel_rfl) (by kernel_rfl) (by decide) (by decide) (by decide) (by decide)) (by kernel_rfl)) <|
    .a 2 3 <| .nil _ _) ?_
  refine aw_bl 4 31727 ?_
  refine aw_lp 63455 ?_
  refine al_round ?_
  refine aw_p 126911 (
    .a 1 3 <| .nil _ _) ?_
  refine aw_sq 253822 253823 ?_
  refine aw_tr 507644 ?_
  refine aw_sk ?_
  refine then_normal ?_
  refine aw_sq 507646 507647 ?_
  refine aw_bl 5 1015293 ?_
  refine aw_p 2030587 (
    .a 3 3 <| .nil _ _) ?_
  refine aw_p 4061175 (
    .a 2 3 <| .p (cS #[.tmp 40, .tmp 41] #[30, 30] [sV 2 R2.length, sV 1 R1.length] [2, 1] [(2, (pB R2)), (1, (pB R1))] (.bool true) (fits_ok R2 R1 1 (-1) zR2 fR2 zR1 fR1 F21) (.cons rS (.cons rS .nil)) ⟨rfl, bP, rfl, bP, trivial⟩ rF) <| .a 1 3 <| .nil _ _) ?_
  refine aw_fl 8122351 ?_
  refine aw_sk ?_
  refine block_normal ?_
  refine then_normal ?_
  refine aw_p1 (
    .a 2 3 <| .nil _ _) ?_
  refine then_normal ?_
  refine al_round ?_
  refine aw_p 126911 (
    .a 1 3 <| .nil _ _) ?_
  refine aw_sq 253822 253823 ?_
  refine aw_fl 507645 ?_
  refine aw_ex 4 ?_
  refine then_exit ?_
  refine then_exit ?_
  refine block_exit ?_
  refine block_normal ?_
  refine then_normal ?_
  refine aw_p1 (
    .a 2 3 <| .nil _ _) ?_
  refine then_normal ?_
  refine al_round ?_
  refine aw_p 495 (
    .a 1 3 <| .nil _ _) ?_
  refine aw_sq 990 991 ?_
  refine aw_fl 1981 ?_
  refine aw_ex 2 ?_
  refine then_exit ?_
  refine then_exit ?_
  refine block_exit ?_
  refine then_normal ?_
  refine aw_p 63 (
    .a 1 3 <| .nil _ _) ?_
  refine aw_rt ?_
  exact en_ret [.int .i64 0] (by kernel_rfl)
theorem adepth_n2 (R1 R2 : List (Int × Int)) (zR1 : 1 ≤ R1.length ∧ R1.length ≤ 200) (fR1 : Sp.Few 1000 R1) (zR2 : 1 ≤ R2.length ∧ R2.length ≤ 200) (fR2 : Sp.Few 1000 R2) (cR1 : Sp.chkF R1 = 0) (cR2 : Sp.chkF R2 = 0) (F21 : Sp.Fit R2 R1 1 (-1)) :
    AC Try.prog 13 3 ([sV 0 2]) [(0, ⟨[sV 1 R1.length, sV 2 R2.length], 30, true, 1⟩), (1, (pB R1)), (2, (pB R2))] (sV 3 2) [(0, ⟨[sV 1 R1.length, sV 2 R2.length], 30, true, 1⟩), (1, (pB R1)), (2, (pB R2)), (3, ⟨[.int .i64 0, .int .i64 1], 3, true, 1⟩)] := by
  refine ac_in Try.func13 (fun w0 W pin => ?_)
  refine aw_p 3 (
    .a 1 3 <| .nil _ _) ?_
  refine aw_sq 6 7 ?_
  refine aw_p 13 (
    .a 1 3 <| .p (cS #[.tmp 8] #[25] [sV 0 2] [0, 1, 2] [(0, ⟨[sV 1 R1.length, sV 2 R2.length], 30, true, 1⟩), (1, (pB R1)), (2, (pB R2))] (.int .i64 0) (acheck_n2 R1 R2 zR1 fR1 zR2 fR2 cR1 cR2 F21) (.cons rS .nil) ⟨rfl, ⟨rfl, rfl, rfl, (.cons rS (.cons rS .nil))⟩, rfl, bP, rfl, bP, trivial⟩ rF) <|
    .a 1 3 <| .nil _ _) ?_
  refine aw_fl 27 ?_
  refine aw_sk ?_
  refine then_normal ?_
  refine aw_p 15 (
    .a 2 3 <| .p (does_mk (kl := .i64) (kc := .i64) (n' := 2) (c' := 2) 3 3 1 8 2 2 (.int .i64 0) [.int .i64 0, .int .i64 0] (by kernel_rfl) (by kernel_rfl) (by kernel_rfl) (by kernel_rfl) (by decide) (by decide) (by decide) (by decide) (by decide)) <| .a 1 4 <| .nil _ _) ?_
  refine aw_sq 30 31 ?_
  refine aw_p 61 (
    .a 3 4 <| .nil _ _) ?_
  refine aw_bl 0 123 ?_
  refine aw_lp 247 ?_
  refine al_round ?_
  refine aw_p 495 (
    .a 1 4 <| .nil _ _) ?_
  refine aw_sq 990 991 ?_
  refine aw_tr 1980 ?_
  refine aw_sk ?_
  refine then_normal ?_
  refine aw_sq 1982 1983 ?_
  refine aw_bl 1 3965 ?_
  refine aw_p 7931 (
    .a 5 4 <| .nil _ _) ?_
  refine aw_p 15863 (
    .a 3 4 <| .nil _ _) ?_
  refine aw_bl 2 31727 ?_
  refine aw_lp 63455 ?_
  refine al_round ?_
  refine aw_p 126911 (
    .a 1 4 <| .nil _ _) ?_
  refine aw_sq 253822 253823 ?_
  refine aw_tr 507644 ?_
  refine aw_sk ?_
  refine then_normal ?_
  refine aw_sq 507646 507647 ?_
  refine aw_bl 3 1015293 ?_
  refine aw_p 2030587 (
    .a 5 4 <| .nil _ _) ?_
  refine aw_p 4061175 (
    .a 9 4 <| .nil _ _) ?_
  refine aw_fl 8122351 ?_
  refine aw_sk ?_
  refine block_normal ?_
  refine then_normal ?_
  refine aw_p1 (
    .a 2 4 <| .nil _ _) ?_
  refine then_normal ?_
  refine al_round ?_
  refine aw_p 126911 (
    .a 1 4 <| .nil _ _) ?_
  refine aw_sq 253822 253823 ?_
  refine aw_tr 507644 ?_
  refine aw_sk ?_
  refine then_normal ?_
  refine aw_sq 507646 507647 ?_
  refine aw_bl 3 1015293 ?_
  refine aw_p 2030587 (
    .a 5 4 <| .nil _ _) ?_
  refine aw_p 4061175 (
    .a 6 4 <|
    .p (cS (m := 2) (args0 := [sV 0 R1.length, .int .i64 0, sV 1 R2.length]) (pre0 := [(0, (pB R1)), (1, (pB R2))]) (v0 := .int .i64 (-1)) #[.tmp 32, .const (.int .i64 0), .tmp 33] #[30, 3, 30] [sV 1 R1.length, .int .i64 0, sV 2 R2.length] [1, 2] [(1, (pB R1)), (2, (pB R2))] (.int .i64 (-1)) ((by have h := side_ok R1 R2 zR1 fR1 zR2 fR2 0 (by omega); rw [Sp.side_at F21.2.2 (by omega)] at h; exact h)) (.cons rS (.cons rF (.cons rS .nil))) ⟨rfl, bP, rfl, bP, trivial⟩ rF) <|
    .a 2 4 <| .nil _ _) ?_
  refine aw_fl 8122351 ?_
  refine aw_sk ?_
  refine block_normal ?_
  refine then_normal ?_
  refine aw_p1 (
    .a 2 4 <| .nil _ _) ?_
  refine then_normal ?_
  refine al_round ?_
  refine aw_p 126911 (
    .a 1 4 <| .nil _ _) ?_
  refine aw_sq 253822 253823 ?_
  refine aw_fl 507645 ?_
  refine aw_ex 2 ?_
  refine then_exit ?_
  refine then_exit ?_
  refine block_exit ?_
  refine block_normal ?_
  refine then_normal ?_
  refine aw_p1 (
    .a 2 4 <| .nil _ _) ?_
  refine then_normal ?_
  refine al_round ?_
  refine aw_p 495 (
    .a 1 4 <| .nil _ _) ?_
  refine aw_sq 990 991 ?_
  refine aw_tr 1980 ?_
  refine aw_sk ?_
  refine then_normal ?_
  refine aw_sq 1982 1983 ?_
  refine aw_bl 1 3965 ?_
  refine aw_p 7931 (
    .a 5 4 <| .nil _ _) ?_
  refine aw_p 15863 (
    .a 3 4 <| .nil _ _) ?_
  refine aw_bl 2 31727 ?_
  refine aw_lp 63455 ?_
  refine al_round ?_
  refine aw_p 126911 (
    .a 1 4 <| .nil _ _) ?_
  refine aw_sq 253822 253823 ?_
  refine aw_tr 507644 ?_
  refine aw_sk ?_
  refine then_normal ?_
  refine aw_sq 507646 507647 ?_
  refine aw_bl 3 1015293 ?_
  refine aw_p 2030587 (
    .a 5 4 <| .nil _ _) ?_
  refine aw_p 4061175 (
    .a 6 4 <|
    .p (cS (m := 2) (args0 := [sV 0 R2.length, .int .i64 0, sV 1 R1.length]) (pre0 := [(0, (pB R2)), (1, (pB R1))]) (v0 := .int .i64 1) #[.tmp 32, .const (.int .i64 0), .tmp 33] #[30, 3, 30] [sV 2 R2.length, .int .i64 0, sV 1 R1.length] [2, 1] [(2, (pB R2)), (1, (pB R1))] (.int .i64 1) ((by have h := side_ok R2 R1 zR2 fR2 zR1 fR1 0 (by omega); rw [Sp.side_at F21.2.1 (by omega)] at h; exact h)) (.cons rS (.cons rF (.cons rS .nil))) ⟨rfl, bP, rfl, bP, trivial⟩ rF) <|
    .a 2 4 <| .nil _ _) ?_
  refine aw_tr 8122350 ?_
  refine aw_p1 (
    .a 7 4 <| .nil _ _) ?_
  refine block_normal ?_
  refine then_normal ?_
  refine aw_p1 (
    .a 2 4 <| .nil _ _) ?_
  refine then_normal ?_
  refine al_round ?_
  refine aw_p 126911 (
    .a 1 4 <| .nil _ _) ?_
  refine aw_sq 253822 253823 ?_
  refine aw_tr 507644 ?_
  refine aw_sk ?_
  refine then_normal ?_
  refine aw_sq 507646 507647 ?_
  refine aw_bl 3 1015293 ?_
  refine aw_p 2030587 (
    .a 5 4 <| .nil _ _) ?_
  refine aw_p 4061175 (
    .a 9 4 <| .nil _ _) ?_
  refine aw_fl 8122351 ?_
  refine aw_sk ?_
  refine block_normal ?_
  refine then_normal ?_
  refine aw_p1 (
    .a 2 4 <| .nil _ _) ?_
  refine then_normal ?_
  refine al_round ?_
  refine aw_p 126911 (
    .a 1 4 <| .nil _ _) ?_
  refine aw_sq 253822 253823 ?_
  refine aw_fl 507645 ?_
  refine aw_ex 2 ?_
  refine then_exit ?_
  refine then_exit ?_
  refine block_exit ?_
  refine block_normal ?_
  refine then_normal ?_
  refine aw_p1 (
    .a 2 4 <| .nil _ _) ?_
  refine then_normal ?_
  refine al_round ?_
  refine aw_p 495 (
    .a 1 4 <| .nil _ _) ?_
  refine aw_sq 990 991 ?_
  refine aw_fl 1981 ?_
  refine aw_ex 0 ?_
  refine then_exit ?_
  refine then_exit ?_
  refine block_exit ?_
  refine then_normal ?_
  refine aw_p 63 (
    .a 2 4 <| .nil _ _) ?_
  refine aw_rt ?_
  exact en_ret [sV 3 2] (by kernel_rfl)
theorem atwice_n2 (R1 R2 : List (Int × Int)) (zR1 : 1 ≤ R1.length ∧ R1.length ≤ 200) (fR1 : Sp.Few 1000 R1) (zR2 : 1 ≤ R2.length ∧ R2.length ≤ 200) (fR2 : Sp.Few 1000 R2) (cR1 : Sp.chkF R1 = 0) (cR2 : Sp.chkF R2 = 0) (F21 : Sp.Fit R2 R1 1 (-1)) (a1 a2 : Int) (t1 : Sp.twF R1 1 0 = a1) (b1 : -100000 ≤ a1 ∧ a1 ≤ 100000) (t2 : Sp.twF R2 1 0 = a2) (b2 : -100000 ≤ a2 ∧ a2 ≤ 100000) :
    AC Try.prog 21 3 ([sV 0 2]) [(0, ⟨[sV 1 R1.length, sV 2 R2.length], 30, true, 1⟩), (1, (pB R1)), (2, (pB R2))] (.int .i64 ((0 + (Sp.mx a1 (0 - a1))) + (0 - (Sp.mx a2 (0 - a2))))) [(0, ⟨[sV 1 R1.length, sV 2 R2.length], 30, true, 1⟩), (1, (pB R1)), (2, (pB R2))] := by
  have m1 : 0 ≤ Sp.mx a1 (0 - a1) ∧ Sp.mx a1 (0 - a1) ≤ 100000 := (by unfold Sp.mx; split <;> omega); have m2 : 0 ≤ Sp.mx a2 (0 - a2) ∧ Sp.mx a2 (0 - a2) ≤ 100000 := (by unfold Sp.mx; split <;> omega)
  refine ac_in Try.func21 (fun w0 W pin => ?_)
  refine aw_p 3 (
    .a 1 3 <| .nil _ _) ?_
  refine aw_p 7 (
    .a 1 3 <| .nil _ _) ?_
  refine aw_sq 14 15 ?_
  refine aw_p 29 (
    .a 1 3 <|
    .p (cF #[.tmp 7] #[25] [sV 0 2] 1 [0, 1, 2, 3] [(0, ⟨[sV 1 R1.length, sV 2 R2.length], 30, true, 1⟩), (1, (pB R1)), (2, (pB R2))] [(0, ⟨[sV 1 R1.length, sV 2 R2.length], 30, true, 1⟩), (1, (pB R1)), (2, (pB R2)), (3, ⟨[.int .i64 0, .int .i64 1], 3, true, 1⟩)] (sV 3 2) (adepth_n2 R1 R2 zR1 fR1 zR2 fR2 cR1 cR2 F21) (.cons rS .nil) ⟨rfl, ⟨rfl, rfl, rfl, (.cons rS (.cons rS .nil))⟩, rfl, bP, rfl, bP, trivial⟩ ⟨rfl, ⟨rfl, rfl, rfl, (.cons rS (.cons rS .nil))⟩, rfl, bP, rfl, bP, rfl, ⟨rfl, rfl, rfl, (.flats (by kernel_rfl))⟩, trivial⟩ rS) <|
    .a 2 4 <| .nil _ _) ?_
  refine aw_bl 0 59 ?_
  refine aw_lp 119 ?_
  refine al_round ?_
  refine aw_p 239 (
    .a 1 4 <| .nil _ _) ?_
  refine aw_sq 478 479 ?_
  refine aw_tr 956 ?_
  refine aw_sk ?_
  refine then_normal ?_
  refine aw_sq 958 959 ?_
  refine aw_bl 1 1917 ?_
  refine aw_p 3835 (
    .a 5 4 <| .nil _ _) ?_
  refine aw_p 7671 (
    .a 4 4 <| .p (cS (m := 1) (args0 := [sV 0 R1.length]) (pre0 := [(0, (pB R1))]) (v0 := .int .i64 a1) #[.tmp 18] #[30] [sV 1 R1.length] [1] [(1, (pB R1))] (.int .i64 a1) ((by have h := twicen_own R1 R1.length rfl (by omega); rw [t1] at h; exact h)) (.cons rS .nil) ⟨rfl, bP, trivial⟩ rF) <| .a 1 4 <| .nil _ _) ?_
  refine aw_p 15343 (
    .a 2 4 <| .p (does_i (0 - a1) (wrap_i64 (by omega) (by omega)) .i64) <| .a 2 4 <| .nil _ _) ?_
  refine aw_sq 30686 30687 ?_
  refine aw_p 61373 (
    .a 3 4 <| .nil _ _) ?_
  refine aw_fl 122747 ?_
  refine aw_sk ?_
  refine then_normal ?_
  refine aw_p1 (
    .a 2 4 <| .p (does_i (0 + (Sp.mx a1 (0 - a1))) (wrap_i64 (by omega) (by omega)) .i64) <| .a 1 4 <| .nil _ _) ?_
  refine block_normal ?_
  refine then_normal ?_
  refine aw_p1 (
    .a 2 4 <| .nil _ _) ?_
  refine then_normal ?_
  refine al_round ?_
  refine aw_p 239 (
    .a 1 4 <| .nil _ _) ?_
  refine aw_sq 478 479 ?_
  refine aw_tr 956 ?_
  refine aw_sk ?_
  refine then_normal ?_
  refine aw_sq 958 959 ?_
  refine aw_bl 1 1917 ?_
  refine aw_p 3835 (
    .a 5 4 <| .nil _ _) ?_
  refine aw_p 7671 (
    .a 4 4 <| .p (cS (m := 1) (args0 := [sV 0 R2.length]) (pre0 := [(0, (pB R2))]) (v0 := .int .i64 a2) #[.tmp 18] #[30] [sV 2 R2.length] [2] [(2, (pB R2))] (.int .i64 a2) ((by have h := twicen_own R2 R2.length rfl (by omega); rw [t2] at h; exact h)) (.cons rS .nil) ⟨rfl, bP, trivial⟩ rF) <| .a 1 4 <| .nil _ _) ?_
  refine aw_p 15343 (
    .a 2 4 <| .p (does_i (0 - a2) (wrap_i64 (by omega) (by omega)) .i64) <| .a 2 4 <| .nil _ _) ?_
  refine aw_sq 30686 30687 ?_
  refine aw_p 61373 (
    .a 3 4 <| .nil _ _) ?_
  refine aw_tr 122746 ?_
  refine aw_p1 (
    .a 1 4 <| .p (does_i (0 - (Sp.mx a2 (0 - a2))) (wrap_i64 (by omega) (by omega)) .i64) <| .a 1 4 <| .nil _ _) ?_
  refine then_normal ?_
  refine aw_p1 (
    .a 2 4 <| .p (does_i ((0 + (Sp.mx a1 (0 - a1))) + (0 - (Sp.mx a2 (0 - a2)))) (wrap_i64 (by omega) (by omega)) .i64) <| .a 1 4 <| .nil _ _) ?_
  refine block_normal ?_
  refine then_normal ?_
  refine aw_p1 (
    .a 2 4 <| .nil _ _) ?_
  refine then_normal ?_
  refine al_round ?_
  refine aw_p 239 (
    .a 1 4 <| .nil _ _) ?_
  refine aw_sq 478 479 ?_
  refine aw_fl 957 ?_
  refine aw_ex 0 ?_
  refine then_exit ?_
  refine then_exit ?_
  refine block_exit ?_
  refine then_normal ?_
  refine aw_p 31 (
    .a 2 4 <| .nil _ _) ?_
  refine aw_rt ?_
  exact en_ret [.int .i64 ((0 + (Sp.mx a1 (0 - a1))) + (0 - (Sp.mx a2 (0 - a2))))] (by kernel_rfl)
end Go.Proofs.Ytndkhgfecnbmnaa.Am
