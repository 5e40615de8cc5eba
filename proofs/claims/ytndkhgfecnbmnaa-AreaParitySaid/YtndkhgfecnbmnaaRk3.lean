/-
  The walk of the check of a ring.
-/
import Derived.Test.YtndkhgfecnbmnaaProg
import Derived.Test.YtndkhgfecnbmnaaAm16
import Derived.Test.YtndkhgfecnbmnaaRk2
namespace Go.Proofs.Ytndkhgfecnbmnaa.Am
open Go Go.Proofs
set_option maxRecDepth 100000
set_option maxHeartbeats 4000000
set_option linter.unusedVariables false
set_option linter.unusedSimpArgs false

theorem chk_own (ps : List (Int × Int)) (hz : ps.length ≤ 9223372036854775807) :
    AC Try.prog 38 1 ([.slice (some ⟨0, 0, none⟩) ps.length 0]) [(0, ⟨(ps.flatMap ptc), 28, true, 2⟩)] (.int .i64 (Sp.chkF ps)) [(0, ⟨(ps.flatMap ptc), 28, true, 2⟩)] := by
  refine ac_in Try.func38 (fun w0 W pin => ?_)
  refine aw_p 3 (
    .a 1 1 <| .nil _ _) ?_
  refine aw_p 7 (
    .a 3 1 <| .nil _ _) ?_
  refine aw_sq 14 15 ?_
  refine aw_bl 0 29 ?_
  refine aw_p 59 (
    .a 3 1 <| .nil _ _) ?_
  refine aw_cd 118 119 (decide (((ps.length : Nat) : Int) > 200)) (fun h1 => ?_) (fun h1 => ?_)
  · have h1p : ((((ps.length : Nat) : Int) > 200)) := by first | (simpa using h1) | (have h1q := h1; simp at h1q; omega) | (have h1q := bx1 h1; simp at h1q; omega)
    refine aw_p 237 (
      .a 1 1 <| .nil _ _) ?_
    refine aw_rt ?_
    refine block_ret ?_
    refine then_ret ?_
    exact en_ret [.int .i64 2] (show (.int .i64 2 : Value) = (.int .i64 (Sp.chkF ps)) from (congrArg (Value.int .i64) (show 2 = (Sp.chkF ps) from by (first | exact (Sp.chk_2 (by assumption)).symm | exact (Sp.chk_3 (by assumption) (by assumption)).symm | exact (Sp.chk_1 (by assumption) (by assumption) (by assumption)).symm | exact (Sp.chk_10 (by assumption) (by assumption) (by assumption) (Sp.allap_no hil hkl hk2 hu2 (by assumption))).symm | exact (Sp.chk_0 (by assumption) (by assumption) (by assumption) hge ha).symm))))
  · have h1p : ¬ ((((ps.length : Nat) : Int) > 200)) := by first | (simpa using h1) | (have h1q := h1; simp at h1q; omega) | (have h1q := bx2 h1; simp at h1q; omega)
    refine aw_p 239 (
      .a 3 1 <| .nil _ _) ?_
    refine aw_cd 478 479 (decide (((ps.length : Nat) : Int) < 3)) (fun h2 => ?_) (fun h2 => ?_)
    · have h2p : ((((ps.length : Nat) : Int) < 3)) := by first | (simpa using h2) | (have h2q := h2; simp at h2q; omega) | (have h2q := bx1 h2; simp at h2q; omega)
      refine aw_p 957 (
        .a 1 1 <| .nil _ _) ?_
      refine aw_rt ?_
      refine block_ret ?_
      refine then_ret ?_
      exact en_ret [.int .i64 3] (show (.int .i64 3 : Value) = (.int .i64 (Sp.chkF ps)) from (congrArg (Value.int .i64) (show 3 = (Sp.chkF ps) from by (first | exact (Sp.chk_2 (by assumption)).symm | exact (Sp.chk_3 (by assumption) (by assumption)).symm | exact (Sp.chk_1 (by assumption) (by assumption) (by assumption)).symm | exact (Sp.chk_10 (by assumption) (by assumption) (by assumption) (Sp.allap_no hil hkl hk2 hu2 (by assumption))).symm | exact (Sp.chk_0 (by assumption) (by assumption) (by assumption) hge ha).symm))))
    · have h2p : ¬ ((((ps.length : Nat) : Int) < 3)) := by first | (simpa using h2) | (have h2q := h2; simp at h2q; omega) | (have h2q := bx2 h2; simp at h2q; omega)
      refine aw_p 959 (
        .a 1 1 <|
        .p (does_callB (x := .func 83) (ars := #[.tmp 15, .func 84]) (ats := #[30, 102]) (g := 83) (vs := [.slice (some ⟨0, 0, none⟩) ps.length 0, .func (.func 84) #[] #[]]) (m := 1) (r := 0) (firsts := #[]) (caps := #[]) (args0 := [.slice (some ⟨0, 0, none⟩) ps.length 0, .func (.func 84) #[] #[]]) (pre0 := [(0, ⟨(ps.flatMap ptc), 28, true, 2⟩)]) (post0 := [(0, ⟨(ps.flatMap ptc), 28, true, 2⟩)]) (pre := [(0, ⟨(ps.flatMap ptc), 28, true, 2⟩)]) (post := [(0, ⟨(ps.flatMap ptc), 28, true, 2⟩)]) (v0 := .bool (ps.any Sp.nok)) (v := .bool (ps.any Sp.nok)) [0] (by kernel_rfl) (by kernel_rfl) (by kernel_rfl) (by kernel_rfl) (ctf_nokn_own ps ps.length (rfl) (by first | omega | decide)) (.cons (.slice _ _ _ _ _ (by decide)) (.cons (.flatB (by kernel_rfl)) .nil)) ⟨rfl, ⟨rfl, rfl, rfl, (.flats (flats_pair _))⟩, trivial⟩ (by kernel_rfl) (by kernel_rfl) (by kernel_rfl) ⟨rfl, ⟨rfl, rfl, rfl, (.flats (flats_pair _))⟩, trivial⟩ (.flatB (by kernel_rfl))) <|
        .a 1 1 <| .nil _ _) ?_
      refine aw_cd 1918 1919 (ps.any Sp.nok) (fun h3 => ?_) (fun h3 => ?_)
      · refine aw_p 3837 (
          .a 1 1 <| .nil _ _) ?_
        refine aw_rt ?_
        refine block_ret ?_
        refine then_ret ?_
        exact en_ret [.int .i64 1] (show (.int .i64 1 : Value) = (.int .i64 (Sp.chkF ps)) from (congrArg (Value.int .i64) (show 1 = (Sp.chkF ps) from by (first | exact (Sp.chk_2 (by assumption)).symm | exact (Sp.chk_3 (by assumption) (by assumption)).symm | exact (Sp.chk_1 (by assumption) (by assumption) (by assumption)).symm | exact (Sp.chk_10 (by assumption) (by assumption) (by assumption) (Sp.allap_no hil hkl hk2 hu2 (by assumption))).symm | exact (Sp.chk_0 (by assumption) (by assumption) (by assumption) hge ha).symm))))
      · refine aw_sk ?_
        refine block_normal ?_
        refine then_normal ?_
        refine aw_sq 30 31 ?_
        refine aw_p 61 (
          .a 2 1 <| .nil _ _) ?_
        refine aw_bl 1 123 ?_
        refine aw_lp 247 ?_
        refine al_w [(0, .slice (some ⟨0, 0, none⟩) ps.length 0), (3, .int .i64 ((ps.length : Nat) : Int)), (17, .int .i64 ((ps.length : Nat) : Int)), (18, .int .i64 ((0 : Nat) : Int))] [(0, ⟨(ps.flatMap ptc), 28, true, 2⟩)] ?_ (hc := (by simp [closedB, valsB, valB, List.all_eq_true, List.mem_flatMap, List.mem_range, List.mem_map, i64v, ptc, flat1]; try (intros; simp [valsB, valB, flat1]); try decide))
        refine al_ind (fun i : Nat => (fun (u : Nat) => mkSt 1 [(0, .slice (some ⟨0, 0, none⟩) ps.length 0), (3, .int .i64 ((ps.length : Nat) : Int)), (17, .int .i64 ((ps.length : Nat) : Int)), (18, .int .i64 ((u : Nat) : Int))] [(0, ⟨(ps.flatMap ptc), 28, true, 2⟩)]) i) (fun i : Nat => (fun (u : Nat) => (u ≤ ps.length) ∧ (Sp.allap ps u = true)) i) (fun i : Nat => (fun (u : Nat) => ps.length - u) i) (fun i hi1 ih1 => ?_) 0 (show (0 ≤ ps.length) ∧ (Sp.allap ps 0 = true) from ⟨by omega, by rfl⟩)
        obtain ⟨u, hv1⟩ : ∃ z, z = i := ⟨i, rfl⟩; subst hv1
        have hi1' : (u ≤ ps.length) ∧ (Sp.allap ps u = true) := hi1
        obtain ⟨hi, ha⟩ := hi1'
        show AL _ _ _ (mkSt 1 [(0, .slice (some ⟨0, 0, none⟩) ps.length 0), (3, .int .i64 ((ps.length : Nat) : Int)), (17, .int .i64 ((ps.length : Nat) : Int)), (18, .int .i64 ((u : Nat) : Int))] [(0, ⟨(ps.flatMap ptc), 28, true, 2⟩)]) _
        refine al_round ?_
        refine aw_p 495 (
          .a 1 1 <| .nil _ _) ?_
        refine aw_sq 990 991 ?_
        refine aw_cd 1980 1981 (decide (((u : Nat) : Int) < ((ps.length : Nat) : Int))) (fun h4 => ?_) (fun h4 => ?_)
        · have h4p : ((((u : Nat) : Int) < ((ps.length : Nat) : Int))) := by first | (simpa using h4) | (have h4q := h4; simp at h4q; omega) | (have h4q := bx1 h4; simp at h4q; omega)
          have hil : u < ps.length := by omega
          refine aw_sk ?_
          refine then_normal ?_
          refine aw_sq 1982 1983 ?_
          refine aw_bl 2 3965 ?_
          refine aw_p 7931 (
            .a 2 1 <| .nil _ _) ?_
          refine aw_p 15863 (
            .a 2 1 <| .nil _ _) ?_
          refine aw_bl 3 31727 ?_
          refine aw_lp 63455 ?_
          refine al_w [(0, .slice (some ⟨0, 0, none⟩) ps.length 0), (3, .int .i64 ((ps.length : Nat) : Int)), (4, .int .i64 ((u : Nat) : Int)), (17, .int .i64 ((ps.length : Nat) : Int)), (18, .int .i64 ((u : Nat) : Int)), (21, .int .i64 ((u : Nat) : Int)), (22, .int .i64 ((0 : Nat) : Int))] [(0, ⟨(ps.flatMap ptc), 28, true, 2⟩)] ?_ (hc := (by simp [closedB, valsB, valB, List.all_eq_true, List.mem_flatMap, List.mem_range, List.mem_map, i64v, ptc, flat1]; try (intros; simp [valsB, valB, flat1]); try decide))
          refine al_ind (fun i : Nat => (fun (k : Nat) => mkSt 1 [(0, .slice (some ⟨0, 0, none⟩) ps.length 0), (3, .int .i64 ((ps.length : Nat) : Int)), (4, .int .i64 ((u : Nat) : Int)), (17, .int .i64 ((ps.length : Nat) : Int)), (18, .int .i64 ((u : Nat) : Int)), (21, .int .i64 ((u : Nat) : Int)), (22, .int .i64 ((k : Nat) : Int))] [(0, ⟨(ps.flatMap ptc), 28, true, 2⟩)]) i) (fun i : Nat => (fun (k : Nat) => (k ≤ u) ∧ (Sp.apRow ps u k = true)) i) (fun i : Nat => (fun (k : Nat) => u - k) i) (fun i hi2 ih2 => ?_) 0 (show (0 ≤ u) ∧ (Sp.apRow ps u 0 = true) from ⟨by omega, by rfl⟩)
          obtain ⟨k, hv2⟩ : ∃ z, z = i := ⟨i, rfl⟩; subst hv2
          have hi2' : (k ≤ u) ∧ (Sp.apRow ps u k = true) := hi2
          obtain ⟨hk, hb⟩ := hi2'
          show AL _ _ _ (mkSt 1 [(0, .slice (some ⟨0, 0, none⟩) ps.length 0), (3, .int .i64 ((ps.length : Nat) : Int)), (4, .int .i64 ((u : Nat) : Int)), (17, .int .i64 ((ps.length : Nat) : Int)), (18, .int .i64 ((u : Nat) : Int)), (21, .int .i64 ((u : Nat) : Int)), (22, .int .i64 ((k : Nat) : Int))] [(0, ⟨(ps.flatMap ptc), 28, true, 2⟩)]) _
          refine al_round ?_
          refine aw_p 126911 (
            .a 1 1 <| .nil _ _) ?_
          refine aw_sq 253822 253823 ?_
          refine aw_cd 507644 507645 (decide (((k : Nat) : Int) < ((u : Nat) : Int))) (fun h5 => ?_) (fun h5 => ?_)
          · have h5p : ((((k : Nat) : Int) < ((u : Nat) : Int))) := by first | (simpa using h5) | (have h5q := h5; simp at h5q; omega) | (have h5q := bx1 h5; simp at h5q; omega)
            have hkl : k < u := by omega
            obtain ⟨k2, hk2⟩ : ∃ j, (k + 1) % ps.length = j := ⟨_, rfl⟩; obtain ⟨u2, hu2⟩ : ∃ j, (u + 1) % ps.length = j := ⟨_, rfl⟩
            refine aw_sk ?_
            refine then_normal ?_
            refine aw_sq 507646 507647 ?_
            refine aw_bl 4 1015293 ?_
            refine aw_p 2030587 (
              .a 2 1 <| .nil _ _) ?_
            refine aw_p 4061175 (
              .a 3 1 <|
              .p (does_callB (x := .func 86) (ars := #[.tmp 25, .tmp 26, .tmp 27]) (ats := #[30, 3, 3]) (g := 86) (vs := [.slice (some ⟨0, 0, none⟩) ps.length 0, .int .i64 ((k : Nat) : Int), .int .i64 ((u : Nat) : Int)]) (m := 1) (r := 0) (firsts := #[]) (caps := #[]) (args0 := [.slice (some ⟨0, 0, none⟩) ps.length 0, .int .i64 ((k : Nat) : Int), .int .i64 ((u : Nat) : Int)]) (pre0 := [(0, ⟨(ps.flatMap ptc), 28, true, 2⟩)]) (post0 := [(0, ⟨(ps.flatMap ptc), 28, true, 2⟩)]) (pre := [(0, ⟨(ps.flatMap ptc), 28, true, 2⟩)]) (post := [(0, ⟨(ps.flatMap ptc), 28, true, 2⟩)]) (v0 := .bool (Sp.apF ps k k2 u u2)) (v := .bool (Sp.apF ps k k2 u u2)) [0] (by kernel_rfl) (by kernel_rfl) (by kernel_rfl) (by kernel_rfl) (apart_own ps hz k u k2 u2 (by omega) (by omega) hk2 hu2) (.cons (.slice _ _ _ _ _ (by decide)) (.cons (.flatB (by kernel_rfl)) (.cons (.flatB (by kernel_rfl)) .nil))) ⟨rfl, ⟨rfl, rfl, rfl, (.flats (flats_pair _))⟩, trivial⟩ (by kernel_rfl) (by kernel_rfl) (by kernel_rfl) ⟨rfl, ⟨rfl, rfl, rfl, (.flats (flats_pair _))⟩, trivial⟩ (.flatB (by kernel_rfl))) <|
              .a 1 1 <| .nil _ _) ?_
            refine aw_cd 8122350 8122351 (!(Sp.apF ps k k2 u u2)) (fun h6 => ?_) (fun h6 => ?_)
            · refine aw_p 16244701 (
                .a 1 1 <| .nil _ _) ?_
              refine aw_rt ?_
              refine block_ret ?_
              refine then_ret ?_
              refine then_ret ?_
              refine block_ret ?_
              refine block_ret ?_
              refine then_ret ?_
              refine then_ret ?_
              refine block_ret ?_
              refine then_ret ?_
              exact en_ret [.int .i64 10] (show (.int .i64 10 : Value) = (.int .i64 (Sp.chkF ps)) from (congrArg (Value.int .i64) (show 10 = (Sp.chkF ps) from by (first | exact (Sp.chk_2 (by assumption)).symm | exact (Sp.chk_3 (by assumption) (by assumption)).symm | exact (Sp.chk_1 (by assumption) (by assumption) (by assumption)).symm | exact (Sp.chk_10 (by assumption) (by assumption) (by assumption) (Sp.allap_no hil hkl hk2 hu2 (by assumption))).symm | exact (Sp.chk_0 (by assumption) (by assumption) (by assumption) hge ha).symm))))
            · refine aw_sk ?_
              refine block_normal ?_
              refine then_normal ?_
              refine aw_p1 (
                .p (does_i (((k : Nat) : Int) + 1) (wrap_i64 (by omega) (by omega)) .i64) <| .a 1 1 <| .nil _ _) ?_
              refine then_normal ?_
              refine al_w [(0, .slice (some ⟨0, 0, none⟩) ps.length 0), (3, .int .i64 ((ps.length : Nat) : Int)), (4, .int .i64 ((u : Nat) : Int)), (17, .int .i64 ((ps.length : Nat) : Int)), (18, .int .i64 ((u : Nat) : Int)), (21, .int .i64 ((u : Nat) : Int)), (22, .int .i64 (((k + 1) : Nat) : Int))] [(0, ⟨(ps.flatMap ptc), 28, true, 2⟩)] ?_ (hc := (by simp [closedB, valsB, valB, List.all_eq_true, List.mem_flatMap, List.mem_range, List.mem_map, i64v, ptc, flat1]; try (intros; simp [valsB, valB, flat1]); try decide))
              exact ih2 (k + 1) (show ((k + 1) ≤ u) ∧ (Sp.apRow ps u (k + 1) = true) from ⟨by omega, by exact Sp.apRow_next hb hk2 hu2 (by assumption)⟩) (show u - (k + 1) < u - k from by omega)
          · have h5p : ¬ ((((k : Nat) : Int) < ((u : Nat) : Int))) := by first | (simpa using h5) | (have h5q := h5; simp at h5q; omega) | (have h5q := bx2 h5; simp at h5q; omega)
            have hku : k = u := by omega
            refine aw_ex 3 ?_
            refine then_exit ?_
            refine then_exit ?_
            refine block_exit ?_
            refine block_normal ?_
            refine then_normal ?_
            refine aw_p1 (
              .p (does_i (((u : Nat) : Int) + 1) (wrap_i64 (by omega) (by omega)) .i64) <| .a 1 1 <| .nil _ _) ?_
            refine then_normal ?_
            refine al_w [(0, .slice (some ⟨0, 0, none⟩) ps.length 0), (3, .int .i64 ((ps.length : Nat) : Int)), (17, .int .i64 ((ps.length : Nat) : Int)), (18, .int .i64 (((u + 1) : Nat) : Int))] [(0, ⟨(ps.flatMap ptc), 28, true, 2⟩)] ?_ (hc := (by simp [closedB, valsB, valB, List.all_eq_true, List.mem_flatMap, List.mem_range, List.mem_map, i64v, ptc, flat1]; try (intros; simp [valsB, valB, flat1]); try decide))
            exact ih1 (u + 1) (show ((u + 1) ≤ ps.length) ∧ (Sp.allap ps (u + 1) = true) from ⟨by omega, by exact Sp.allap_next ha hku hb⟩) (show ps.length - (u + 1) < ps.length - u from by omega)
        · have h4p : ¬ ((((u : Nat) : Int) < ((ps.length : Nat) : Int))) := by first | (simpa using h4) | (have h4q := h4; simp at h4q; omega) | (have h4q := bx2 h4; simp at h4q; omega)
          have hge : u = ps.length := by omega
          refine aw_ex 1 ?_
          refine then_exit ?_
          refine then_exit ?_
          refine block_exit ?_
          refine then_normal ?_
          refine aw_p 63 (
            .a 1 1 <| .nil _ _) ?_
          refine aw_rt ?_
          exact en_ret [.int .i64 0] (show (.int .i64 0 : Value) = (.int .i64 (Sp.chkF ps)) from (congrArg (Value.int .i64) (show 0 = (Sp.chkF ps) from by (first | exact (Sp.chk_2 (by assumption)).symm | exact (Sp.chk_3 (by assumption) (by assumption)).symm | exact (Sp.chk_1 (by assumption) (by assumption) (by assumption)).symm | exact (Sp.chk_10 (by assumption) (by assumption) (by assumption) (Sp.allap_no hil hkl hk2 hu2 (by assumption))).symm | exact (Sp.chk_0 (by assumption) (by assumption) (by assumption) hge ha).symm))))

theorem chkn_own (ps : List (Int × Int)) (N : Nat) (hN : ps.length = N) (hz : N ≤ 9223372036854775807) : AC Try.prog 38 1 [.slice (some ⟨0, 0, none⟩) N 0] [(0, ⟨(ps.flatMap ptc), 28, true, 2⟩)] (.int .i64 (Sp.chkF ps)) [(0, ⟨(ps.flatMap ptc), 28, true, 2⟩)] := by
  subst hN
  exact chk_own ps hz

end Go.Proofs.Ytndkhgfecnbmnaa.Am
