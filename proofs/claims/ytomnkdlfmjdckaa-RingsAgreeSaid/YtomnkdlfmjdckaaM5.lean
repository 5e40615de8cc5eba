import Derived.Test.YtomnkdlfmjdckaaProg
import Derived.Test.YtomnkdlfmjdckaaM2
import Derived.Test.YtomnkdlfmjdckaaM4
import Derived.Test.YtomnkdlfmjdckaaM3
namespace Go.Proofs.Ytomnkdlfmjdckaa.Am
open Go Go.Proofs
set_option maxRecDepth 100000
set_option maxHeartbeats 4000000
set_option linter.unusedVariables false
set_option linter.unusedSimpArgs false
theorem chk_own (ps : List (Int × Int)) (hz : ps.length ≤ 9223372036854775807) :
    AC Try.prog 10 1 ([.slice (some ⟨0, 0, none⟩) ps.length 0]) [(0, ⟨(ps.flatMap ptc), 27, true, 2⟩)] (.int .i64 (Sp.chkF ps)) [(0, ⟨(ps.flatMap ptc), 27, true, 2⟩)] := by
  refine ac_in Try.func10 (fun w0 W pin => ?_)
  refine aw_p 3 (
    .a 1 1 <| .nil _ _) ?_
  refine aw_p 7 (
    .a 3 1 <| .nil _ _) ?_
  refine aw_sq 14 15 ?_
  refine aw_bl 0 29 ?_
  refine aw_p 59 (
    .a 3 1 <| .nil _ _) ?_
  refine aw_cd 118 119 (decide (((ps.length : Nat) : Int) > 200)) (fun h1 => ?_) (fun h1 => ?_)
  · have h1p : ((((ps.length : Nat) : Int) > 200)) := by first | (simpa using h1) | (have h1q := h1; simp at h1q; omega) | (have h1q := bx1 h1; simp at h1q; omega)
    refine aw_p 237 (
      .a 1 1 <| .nil _ _) ?_
    refine aw_rt ?_
    refine block_ret ?_
    refine then_ret ?_
    exact en_ret [.int .i64 2] (show (.int .i64 2 : Value) = (.int .i64 (Sp.chkF ps)) from (congrArg (Value.int .i64) (show 2 = (Sp.chkF ps) from by (first | exact (Sp.chk_2 (by assumption)).symm | exact (Sp.chk_3 (by assumption) (by assumption)).symm | exact (Sp.chk_1 (by assumption) (by assumption) (by assumption)).symm | exact (Sp.chk_10 (by assumption) (by assumption) (by assumption) (Sp.allap_no hil hkl hk2 hu2 (by assumption))).symm | exact (Sp.chk_0 (by assumption) (by assumption) (by assumption) hge ha).symm))))
  · have h1p : ¬ ((((ps.length : Nat) : Int) > 200)) := by first | (simpa using h1) | (have h1q := h1; simp at h1q; omega) | (have h1q := bx2 h1; simp at h1q; omega)
    refine aw_p 239 (
      .a 3 1 <| .nil _ _) ?_
    refine aw_cd 478 479 (decide (((ps.length : Nat) : Int) < 3)) (fun h2 => ?_) (fun h2 => ?_)
    · have h2p : ((((ps.length : Nat) : Int) < 3)) := by first | (simpa using h2) | (have h2q := h2; simp at h2q; omega) | (have h2q := bx1 h2; simp at h2q; omega)
      refine aw_p 957 (
        .a 1 1 <| .nil _ _) ?_
      refine aw_rt ?_
      refine block_ret ?_
      refine then_ret ?_
      exact en_ret [.int .i64 3] (show (.int .i64 3 : Value) = (.int .i64 (Sp.chkF ps)) from (congrArg (Value.int .i64) (show 3 = (Sp.chkF ps) from by (first | exact (Sp.chk_2 (by assumption)).symm | exact (Sp.chk_3 (by assumption) (by assumption)).symm | exact (Sp.chk_1 (by assumption) (by assumption) (by assumption)).symm | exact (Sp.chk_10 (by assumption) (by assumption) (by assumption) (Sp.allap_no hil hkl hk2 hu2 (by assumption))).symm | exact (Sp.chk_0 (by assumption) (by assumption) (by assumption) hge ha).symm))))
    · have h2p : ¬ ((((ps.length : Nat) : Int) < 3)) := by first | (simpa using h2) | (have h2q := h2; simp at h2q; omega) | (have h2q := bx2 h2; simp at h2q; omega)
      refine aw_p 959 (
        .a 1 1 <|
        .p (does_callB (x := .func 36) (ars := #[.tmp 15, .func 37]) (ats := #[24, 72]) (g := 36) (vs := [.slice (some ⟨0, 0, none⟩) ps.length 0, .func (.func 37) #[] #[]]) (m := 1) (r := 0) (firsts := #[]) (caps := #[]) (args0 := [.slice (some ⟨0, 0, none⟩) ps.length 0, .func (.func 37) #[] #[]]) (pre0 := [(0, ⟨(ps.flatMap ptc), 27, true, 2⟩)]) (post0 := [(0, ⟨(ps.flatMap ptc), 27, true, 2⟩)]) (pre := [(0, ⟨(ps.flatMap ptc), 27, true, 2⟩)]) (post := [(0, ⟨(ps.flatMap ptc), 27, true, 2⟩)]) (v0 := .bool (ps.any Sp.nok)) (v := .bool (ps.any Sp.nok)) [0] (by kernel_rfl) (by kernel_rfl) (by kernel_rfl) (by kernel_rfl) (ctf_nokn_own ps ps.length (rfl) (by first | omega | decide)) (.cons (.slice _ _ _ _ _ (by decide)) (.cons (.flatB (by kernel_rfl)) .nil)) ⟨rfl, ⟨rfl, rfl, rfl, (.flats (flats_pair _))⟩, trivial⟩ (by kernel_rfl) (by kernel_rfl) (by kernel_rfl) ⟨rfl, ⟨rfl, rfl, rfl, (.flats (flats_pair _))⟩, trivial⟩ (.flatB (by kernel_rfl))) <|
        .a 1 1 <| .nil _ _) ?_
      refine aw_cd 1918 1919 (ps.any Sp.nok) (fun h3 => ?_) (fun h3 => ?_)
      · refine aw_p 3837 (
          .a 1 1 <| .nil _ _) ?_
        refine aw_rt ?_
        refine block_ret ?_
        refine then_ret ?_
        exact en_ret [.int .i64 1] (show (.int .i64 1 : Value) = (.int .i64 (Sp.chkF ps)) from (congrArg (Value.int .i64) (show 1 = (Sp.chkF ps) from by (first | exact (Sp.chk_2 (by assumption)).symm | exact (Sp.chk_3 (by assumption) (by assumption)).symm | exact (Sp.chk_1 (by assumption) (by assumption) (by assumption)).symm | exact (Sp.chk_10 (by assumption) (by assumption) (by assumption) (Sp.allap_no hil hkl hk2 hu2 (by assumption))).symm | exact (Sp.chk_0 (by assumption) (by assumption) (by assumption) hge ha).symm))))
      · refine aw_sk ?_
        refine block_normal ?_
        refine then_normal ?_
        refine aw_sq 30 31 ?_
        refine aw_p 61 (
          .a 2 1 <| .nil _ _) ?_
        refine aw_bl 1 123 ?_
        refine aw_lp 247 ?_
        refine al_w [(0, .slice (some ⟨0, 0, none⟩) ps.length 0), (17, .int .i64 ((ps.length : Nat) : Int)), (18, .int .i64 ((0 : Nat) : Int))] [(0, ⟨(ps.flatMap ptc), 27, true, 2⟩)] ?_ (hc := (by simp [closedB, valsB, valB, List.all_eq_true, List.mem_flatMap, List.mem_range, List.mem_map, i64v, ptc, flat1]; try (intros; simp [valsB, valB, flat1]); try decide))
        refine al_ind (fun i : Nat => (fun (u : Nat) => mkSt 1 [(0, .slice (some ⟨0, 0, none⟩) ps.length 0), (17, .int .i64 ((ps.length : Nat) : Int)), (18, .int .i64 ((u : Nat) : Int))] [(0, ⟨(ps.flatMap ptc), 27, true, 2⟩)]) i) (fun i : Nat => (fun (u : Nat) => (u ≤ ps.length) ∧ (Sp.allap ps u = true)) i) (fun i : Nat => (fun (u : Nat) => ps.length - u) i) (fun i hi1 ih1 => ?_) 0 (show (0 ≤ ps.length) ∧ (Sp.allap ps 0 = true) from ⟨by omega, by rfl⟩)
        obtain ⟨u, hv1⟩ : ∃ z, z = i := ⟨i, rfl⟩; subst hv1
        have hi1' : (u ≤ ps.length) ∧ (Sp.allap ps u = true) := hi1
        obtain ⟨hi, ha⟩ := hi1'
        show AL _ _ _ (mkSt 1 [(0, .slice (some ⟨0, 0, none⟩) ps.length 0), (17, .int .i64 ((ps.length : Nat) : Int)), (18, .int .i64 ((u : Nat) : Int))] [(0, ⟨(ps.flatMap ptc), 27, true, 2⟩)]) _
        refine al_round ?_
        refine aw_p 495 (
          .a 1 1 <| .nil _ _) ?_
        refine aw_sq 990 991 ?_
        refine aw_cd 1980 1981 (decide (((u : Nat) : Int) < ((ps.length : Nat) : Int))) (fun h4 => ?_) (fun h4 => ?_)
        · have h4p : ((((u : Nat) : Int) < ((ps.length : Nat) : Int))) := by first | (simpa using h4) | (have h4q := h4; simp at h4q; omega) | (have h4q := bx1 h4; simp at h4q; omega)
          have hil : u < ps.length := by omega
          refine aw_sk ?_
          refine then_normal ?_
          refine aw_sq 1982 1983 ?_
          refine aw_bl 2 3965 ?_
          refine aw_p 7931 (
            .a 2 1 <| .nil _ _) ?_
          refine aw_p 15863 (
            .a 2 1 <| .nil _ _) ?_
          refine aw_bl 3 31727 ?_
          refine aw_lp 63455 ?_
          refine al_w [(0, .slice (some ⟨0, 0, none⟩) ps.length 0), (4, .int .i64 ((u : Nat) : Int)), (17, .int .i64 ((ps.length : Nat) : Int)), (18, .int .i64 ((u : Nat) : Int)), (21, .int .i64 ((u : Nat) : Int)), (22, .int .i64 ((0 : Nat) : Int))] [(0, ⟨(ps.flatMap ptc), 27, true, 2⟩)] ?_ (hc := (by simp [closedB, valsB, valB, List.all_eq_true, List.mem_flatMap, List.mem_range, List.mem_map, i64v, ptc, flat1]; try (intros; simp [valsB, valB, flat1]); try decide))
          refine al_ind (fun i : Nat => (fun (k : Nat) => mkSt 1 [(0, .slice (some ⟨0, 0, none⟩) ps.length 0), (4, .int .i64 ((u : Nat) : Int)), (17, .int .i64 ((ps.length : Nat) : Int)), (18, .int .i64 ((u : Nat) : Int)), (21, .int .i64 ((u : Nat) : Int)), (22, .int .i64 ((k : Nat) : Int))] [(0, ⟨(ps.flatMap ptc), 27, true, 2⟩)]) i) (fun i : Nat => (fun (k : Nat) => (k ≤ u) ∧ (Sp.apRow ps u k = true)) i) (fun i : Nat => (fun (k : Nat) => u - k) i) (fun i hi2 ih2 => ?_) 0 (show (0 ≤ u) ∧ (Sp.apRow ps u 0 = true) from ⟨by omega, by rfl⟩)
          obtain ⟨k, hv2⟩ : ∃ z, z = i := ⟨i, rfl⟩; subst hv2
          have hi2' : (k ≤ u) ∧ (Sp.apRow ps u k = true) := hi2
          obtain ⟨hk, hb⟩ := hi2'
          show AL _ _ _ (mkSt 1 [(0, .slice (some ⟨0, 0, none⟩) ps.length 0), (4, .int .i64 ((u : Nat) : Int)), (17, .int .i64 ((ps.length : Nat) : Int)), (18, .int .i64 ((u : Nat) : Int)), (21, .int .i64 ((u : Nat) : Int)), (22, .int .i64 ((k : Nat) : Int))] [(0, ⟨(ps.flatMap ptc), 27, true, 2⟩)]) _
          refine al_round ?_
          refine aw_p 126911 (
            .a 1 1 <| .nil _ _) ?_
          refine aw_sq 253822 253823 ?_
          refine aw_cd 507644 507645 (decide (((k : Nat) : Int) < ((u : Nat) : Int))) (fun h5 => ?_) (fun h5 => ?_)
          · have h5p : ((((k : Nat) : Int) < ((u : Nat) : Int))) := by first | (simpa using h5) | (have h5q := h5; simp at h5q; omega) | (have h5q := bx1 h5; simp at h5q; omega)
            have hkl : k < u := by omega
            obtain ⟨k2, hk2⟩ : ∃ j, (k + 1) % ps.length = j := ⟨_, rfl⟩; obtain ⟨u2, hu2⟩ : ∃ j, (u + 1) % ps.length = j := ⟨_, rfl⟩
            refine aw_sk ?_
            refine then_normal ?_
            refine aw_sq 507646 507647 ?_
            refine aw_bl 4 1015293 ?_
            refine aw_p 2030587 (
              .a 2 1 <| .nil _ _) ?_
            refine aw_p 4061175 (
              .a 3 1 <|
              .p (does_callB (x := .func 39) (ars := #[.tmp 25, .tmp 26, .tmp 27]) (ats := #[24, 3, 3]) (g := 39) (vs := [.slice (some ⟨0, 0, none⟩) ps.length 0, .int .i64 ((k : Nat) : Int), .int .i64 ((u : Nat) : Int)]) (m := 1) (r := 0) (firsts := #[]) (caps := #[]) (args0 := [.slice (some ⟨0, 0, none⟩) ps.length 0, .int .i64 ((k : Nat) : Int), .int .i64 ((u : Nat) : Int)]) (pre0 := [(0, ⟨(ps.flatMap ptc), 27, true, 2⟩)]) (post0 := [(0, ⟨(ps.flatMap ptc), 27, true, 2⟩)]) (pre := [(0, ⟨(ps.flatMap ptc), 27, true, 2⟩)]) (post := [(0, ⟨(ps.flatMap ptc), 27, true, 2⟩)]) (v0 := .bool (Sp.apF ps k k2 u u2)) (v := .bool (Sp.apF ps k k2 u u2)) [0] (by kernel_rfl) (by kernel_rfl) (by kernel_rfl) (by kernel_rfl) (apart_own ps hz k u k2 u2 (by omega) (by omega) hk2 hu2) (.cons (.slice _ _ _ _ _ (by decide)) (.cons (.flatB (by kernel_rfl)) (.cons (.flatB (by kernel_rfl)) .nil))) ⟨rfl, ⟨rfl, rfl, rfl, (.flats (flats_pair _))⟩, trivial⟩ (by kernel_rfl) (by kernel_rfl) (by kernel_rfl) ⟨rfl, ⟨rfl, rfl, rfl, (.flats (flats_pair _))⟩, trivial⟩ (.flatB (by kernel_rfl))) <|
              .a 1 1 <| .nil _ _) ?_
            refine aw_cd 8122350 8122351 (!(Sp.apF ps k k2 u u2)) (fun h6 => ?_) (fun h6 => ?_)
            · refine aw_p 16244701 (
                .a 1 1 <| .nil _ _) ?_
              refine aw_rt ?_
              refine block_ret ?_
              refine then_ret ?_
              refine then_ret ?_
              refine block_ret ?_
              refine block_ret ?_
              refine then_ret ?_
              refine then_ret ?_
              refine block_ret ?_
              refine then_ret ?_
              exact en_ret [.int .i64 10] (show (.int .i64 10 : Value) = (.int .i64 (Sp.chkF ps)) from (congrArg (Value.int .i64) (show 10 = (Sp.chkF ps) from by (first | exact (Sp.chk_2 (by assumption)).symm | exact (Sp.chk_3 (by assumption) (by assumption)).symm | exact (Sp.chk_1 (by assumption) (by assumption) (by assumption)).symm | exact (Sp.chk_10 (by assumption) (by assumption) (by assumption) (Sp.allap_no hil hkl hk2 hu2 (by assumption))).symm | exact (Sp.chk_0 (by assumption) (by assumption) (by assumption) hge ha).symm))))
            · refine aw_sk ?_
              refine block_normal ?_
              refine then_normal ?_
              refine aw_p1 (
                .p (does_i (((k : Nat) : Int) + 1) (wrap_i64 (by omega) (by omega)) .i64) <| .a 1 1 <| .nil _ _) ?_
              refine then_normal ?_
              refine al_w [(0, .slice (some ⟨0, 0, none⟩) ps.length 0), (4, .int .i64 ((u : Nat) : Int)), (17, .int .i64 ((ps.length : Nat) : Int)), (18, .int .i64 ((u : Nat) : Int)), (21, .int .i64 ((u : Nat) : Int)), (22, .int .i64 (((k + 1) : Nat) : Int))] [(0, ⟨(ps.flatMap ptc), 27, true, 2⟩)] ?_ (hc := (by simp [closedB, valsB, valB, List.all_eq_true, List.mem_flatMap, List.mem_range, List.mem_map, i64v, ptc, flat1]; try (intros; simp [valsB, valB, flat1]); try decide))
              exact ih2 (k + 1) (show ((k + 1) ≤ u) ∧ (Sp.apRow ps u (k + 1) = true) from ⟨by omega, by exact Sp.apRow_next hb hk2 hu2 (by assumption)⟩) (show u - (k + 1) < u - k from by omega)
          · have h5p : ¬ ((((k : Nat) : Int) < ((u : Nat) : Int))) := by first | (simpa using h5) | (have h5q := h5; simp at h5q; omega) | (have h5q := bx2 h5; simp at h5q; omega)
            have hku : k = u := by omega
            refine aw_ex 3 ?_
            refine then_exit ?_
            refine then_exit ?_
            refine block_exit ?_
            refine block_normal ?_
            refine then_normal ?_
            refine aw_p1 (
              .p (does_i (((u : Nat) : Int) + 1) (wrap_i64 (by omega) (by omega)) .i64) <| .a 1 1 <| .nil _ _) ?_
            refine then_normal ?_
            refine al_w [(0, .slice (some ⟨0, 0, none⟩) ps.length 0), (17, .int .i64 ((ps.length : Nat) : Int)), (18, .int .i64 (((u + 1) : Nat) : Int))] [(0, ⟨(ps.flatMap ptc), 27, true, 2⟩)] ?_ (hc := (by simp [closedB, valsB, valB, List.all_eq_true, List.mem_flatMap, List.mem_range, List.mem_map, i64v, ptc, flat1]; try (intros; simp [valsB, valB, flat1]); try decide))
            exact ih1 (u + 1) (show ((u + 1) ≤ ps.length) ∧ (Sp.allap ps (u + 1) = true) from ⟨by omega, by exact Sp.allap_next ha hku hb⟩) (show ps.length - (u + 1) < ps.length - u from by omega)
        · have h4p : ¬ ((((u : Nat) : Int) < ((ps.length : Nat) : Int))) := by first | (simpa using h4) | (have h4q := h4; simp at h4q; omega) | (have h4q := bx2 h4; simp at h4q; omega)
          have hge : u = ps.length := by omega
          refine aw_ex 1 ?_
          refine then_exit ?_
          refine then_exit ?_
          refine block_exit ?_
          refine then_normal ?_
          refine aw_p 63 (
            .a 1 1 <| .nil _ _) ?_
          refine aw_rt ?_
          exact en_ret [.int .i64 0] (show (.int .i64 0 : Value) = (.int .i64 (Sp.chkF ps)) from (congrArg (Value.int .i64) (show 0 = (Sp.chkF ps) from by (first | exact (Sp.chk_2 (by assumption)).symm | exact (Sp.chk_3 (by assumption) (by assumption)).symm | exact (Sp.chk_1 (by assumption) (by assumption) (by assumption)).symm | exact (Sp.chk_10 (by assumption) (by assumption) (by assumption) (Sp.allap_no hil hkl hk2 hu2 (by assumption))).symm | exact (Sp.chk_0 (by assumption) (by assumption) (by assumption) hge ha).symm))))
theorem chkn_own (ps : List (Int × Int)) (N : Nat) (hN : ps.length = N) (hz : N ≤ 9223372036854775807) : AC Try.prog 10 1 [.slice (some ⟨0, 0, none⟩) N 0] [(0, ⟨(ps.flatMap ptc), 27, true, 2⟩)] (.int .i64 (Sp.chkF ps)) [(0, ⟨(ps.flatMap ptc), 27, true, 2⟩)] := by
  subst hN
  exact chk_own ps hz
end Go.Proofs.Ytomnkdlfmjdckaa.Am

namespace Go.Proofs.Ytomnkdlfmjdckaa.Am
open Go Go.Proofs
set_option maxRecDepth 100000
set_option maxHeartbeats 4000000
set_option linter.unusedVariables false
set_option linter.unusedSimpArgs false
theorem has_own (ps : List (Int × Int)) (hz : ps.length ≤ 9223372036854775807) (x y : Int) :
    AC Try.prog 8 1 ([.slice (some ⟨0, 0, none⟩) ps.length 0, .agg #[.int .i64 x, .int .i64 y]]) [(0, ⟨(ps.flatMap ptc), 27, true, 2⟩)] (.int .i64 (Sp.hasF ps (Sp.lim 1048576 x) (Sp.lim 1048576 y) 0 (-1))) [(0, ⟨(ps.flatMap ptc), 27, true, 2⟩)] := by
  have qx := Sp.lim_bd (m := 1048576) (by decide) x; have qy := Sp.lim_bd (m := 1048576) (by decide) y
  refine ac_in Try.func8 (fun w0 W pin => ?_)
  refine aw_p 3 (
    .a 2 1 <| .nil _ _) ?_
  refine aw_p 7 (
    .a 1 2 <| .p (does_c (clamp_ok x y)) <| .a 1 2 <| .nil _ _) ?_
  refine aw_p 15 (
    .a 1 2 <| .nil _ _) ?_
  refine aw_sq 30 31 ?_
  refine aw_p 61 (
    .a 3 2 <| .nil _ _) ?_
  refine aw_bl 0 123 ?_
  refine aw_lp 247 ?_
  refine al_w [(0, .slice (some ⟨0, 0, none⟩) ps.length 0), (3, .pointer (some ⟨1, 0, none⟩)), (5, .int .i64 (-1)), (12, .int .i64 ((ps.length : Nat) : Int)), (13, .int .i64 ((0 : Nat) : Int))] [(0, ⟨(ps.flatMap ptc), 27, true, 2⟩), (1, ⟨[.int .i64 (Sp.lim 1048576 x), .int .i64 (Sp.lim 1048576 y)], 27, true, 2⟩)] ?_ (hc := (by simp [closedB, valsB, valB, List.all_eq_true, List.mem_flatMap, List.mem_range, List.mem_map, i64v, ptc, flat1]; try (intros; simp [valsB, valB, flat1]); try decide))
  refine al_ind (fun i : Nat × Int => (fun (i : Nat) (out : Int) => mkSt 1 [(0, .slice (some ⟨0, 0, none⟩) ps.length 0), (3, .pointer (some ⟨1, 0, none⟩)), (5, .int .i64 out), (12, .int .i64 ((ps.length : Nat) : Int)), (13, .int .i64 ((i : Nat) : Int))] [(0, ⟨(ps.flatMap ptc), 27, true, 2⟩), (1, ⟨[.int .i64 (Sp.lim 1048576 x), .int .i64 (Sp.lim 1048576 y)], 27, true, 2⟩)]) i.1 i.2) (fun i : Nat × Int => (fun (i : Nat) (out : Int) => (i ≤ ps.length) ∧ (-1 ≤ out ∧ out ≤ 1) ∧ (Sp.hasF ps (Sp.lim 1048576 x) (Sp.lim 1048576 y) i out = Sp.hasF ps (Sp.lim 1048576 x) (Sp.lim 1048576 y) 0 (-1))) i.1 i.2) (fun i : Nat × Int => (fun (i : Nat) (out : Int) => ps.length - i) i.1 i.2) (fun i hi1 ih1 => ?_) (0, (-1)) (show (0 ≤ ps.length) ∧ (-1 ≤ (-1) ∧ (-1) ≤ 1) ∧ (Sp.hasF ps (Sp.lim 1048576 x) (Sp.lim 1048576 y) 0 (-1) = Sp.hasF ps (Sp.lim 1048576 x) (Sp.lim 1048576 y) 0 (-1)) from ⟨by omega, by omega, by rfl⟩)
  obtain ⟨i, out⟩ := i
  have hi1' : (i ≤ ps.length) ∧ (-1 ≤ out ∧ out ≤ 1) ∧ (Sp.hasF ps (Sp.lim 1048576 x) (Sp.lim 1048576 y) i out = Sp.hasF ps (Sp.lim 1048576 x) (Sp.lim 1048576 y) 0 (-1)) := hi1
  obtain ⟨hi, ho, hh⟩ := hi1'
  show AL _ _ _ (mkSt 1 [(0, .slice (some ⟨0, 0, none⟩) ps.length 0), (3, .pointer (some ⟨1, 0, none⟩)), (5, .int .i64 out), (12, .int .i64 ((ps.length : Nat) : Int)), (13, .int .i64 ((i : Nat) : Int))] [(0, ⟨(ps.flatMap ptc), 27, true, 2⟩), (1, ⟨[.int .i64 (Sp.lim 1048576 x), .int .i64 (Sp.lim 1048576 y)], 27, true, 2⟩)]) _
  refine al_round ?_
  refine aw_p 495 (
    .a 1 2 <| .nil _ _) ?_
  refine aw_sq 990 991 ?_
  refine aw_cd 1980 1981 (decide (((i : Nat) : Int) < ((ps.length : Nat) : Int))) (fun h1 => ?_) (fun h1 => ?_)
  · have h1p : ((((i : Nat) : Int) < ((ps.length : Nat) : Int))) := by first | (simpa using h1) | (have h1q := h1; simp at h1q; omega) | (have h1q := bx1 h1; simp at h1q; omega)
    have hil : i < ps.length := by omega
    obtain ⟨j, hj⟩ : ∃ j, (i + 1) % ps.length = j := ⟨_, rfl⟩
    have hjl : j < ps.length := hj ▸ Nat.mod_lt _ (by omega)
    have bi1 := Sp.lim_bd (m := 1048576) (by decide) (ps.getD i (0, 0)).1; have bi2 := Sp.lim_bd (m := 1048576) (by decide) (ps.getD i (0, 0)).2; have bj1 := Sp.lim_bd (m := 1048576) (by decide) (ps.getD j (0, 0)).1; have bj2 := Sp.lim_bd (m := 1048576) (by decide) (ps.getD j (0, 0)).2
    refine aw_sk ?_
    refine then_normal ?_
    refine aw_sq 1982 1983 ?_
    refine aw_bl 1 3965 ?_
    refine aw_p 7931 (
      .a 2 2 <| .nil _ _) ?_
    refine aw_d 15863 (
      .a 2 2 <| .p (does_indexSlice (t := 24) (x := .tmp 16) (y := .tmp 17) (k := 0) (off := 0) (n := ps.length) (c := 0) (z := 2) (kd := .i64) (j := ((i : Nat) : Int)) (by kernel_rfl) (by kernel_rfl) (by kernel_rfl) (by kernel_rfl) (by kernel_rfl) (by omega) (by omega)) <|
      .p (does_load (t := 27) (x := .tmp 18) (k := 0) (off := (0 + (((i : Nat) : Int)).toNat * 2)) (b := ⟨(ps.flatMap ptc), 27, true, 2⟩) (v := .agg #[.int .i64 ((ps.getD i (0, 0)).1), .int .i64 ((ps.getD i (0, 0)).2)]) (by kernel_rfl) (by kernel_rfl) (by kernel_rfl) (ldV_pair (j := i) (by kernel_rfl) (by kernel_rfl) (by omega) (by omega))) <|
      .p (does_c (clamp_ok ((ps.getD i (0, 0)).1) ((ps.getD i (0, 0)).2))) <| .a 2 2 <| .p (does_i (((i : Nat) : Int) + 1) (wrap_i64 (by omega) (by omega)) .i64) <| .a 2 2 <|
      .p (does_int (n' := ((j : Nat) : Int)) (does_rem (t := 3) (t2 := 3) (x := .tmp 23) (y := .tmp 25) (k := .i64) (a := (((i : Nat) : Int) + 1)) (b := ((ps.length : Nat) : Int)) (by kernel_rfl) (by kernel_rfl) (by kernel_rfl) (by omega)) ((show (Int.tmod (((i : Nat) : Int) + 1) ((ps.length : Nat) : Int)) = ((j : Nat) : Int) from (by rw [← hj]; exact rfl)))) <|
      .p (does_indexSlice (t := 24) (x := .tmp 21) (y := .tmp 26) (k := 0) (off := 0) (n := ps.length) (c := 0) (z := 2) (kd := .i64) (j := ((j : Nat) : Int)) (by kernel_rfl) (by kernel_rfl) (by kernel_rfl) (by kernel_rfl) (by kernel_rfl) (by omega) (by omega)) <|
      .p (does_load (t := 27) (x := .tmp 27) (k := 0) (off := (0 + (((j : Nat) : Int)).toNat * 2)) (b := ⟨(ps.flatMap ptc), 27, true, 2⟩) (v := .agg #[.int .i64 ((ps.getD j (0, 0)).1), .int .i64 ((ps.getD j (0, 0)).2)]) (by kernel_rfl) (by kernel_rfl) (by kernel_rfl) (ldV_pair (j := j) (by kernel_rfl) (by kernel_rfl) (by omega) (by omega))) <|
      .p (does_c (clamp_ok ((ps.getD j (0, 0)).1) ((ps.getD j (0, 0)).2))) <| .a 4 2 <| .nil _ _) ?_
    refine aw_sq 31726 31727 ?_
    refine aw_p 63453 (
      .a 3 4 <|
      .p (does_c (on_in (Sp.lim 1048576 ((ps.getD i (0, 0)).1)) (Sp.lim 1048576 ((ps.getD i (0, 0)).2)) (Sp.lim 1048576 ((ps.getD j (0, 0)).1)) (Sp.lim 1048576 ((ps.getD j (0, 0)).2)) (Sp.lim 1048576 x) (Sp.lim 1048576 y) (by omega) (by omega) (by omega) (by omega) (by omega) (by omega) (by omega) (by omega) (by omega) (by omega) (by omega) (by omega))) <| .nil _ _) ?_
    refine aw_cd 126906 126907 (Sp.onb (Sp.lim 1048576 ((ps.getD i (0, 0)).1)) (Sp.lim 1048576 ((ps.getD i (0, 0)).2)) (Sp.lim 1048576 ((ps.getD j (0, 0)).1)) (Sp.lim 1048576 ((ps.getD j (0, 0)).2)) (Sp.lim 1048576 x) (Sp.lim 1048576 y)) (fun h2 => ?_) (fun h2 => ?_)
    · refine aw_p 253813 (
        .a 1 4 <| .nil _ _) ?_
      refine aw_rt ?_
      refine then_ret ?_
      refine block_ret ?_
      refine then_ret ?_
      refine then_ret ?_
      refine block_ret ?_
      refine then_ret ?_
      exact en_ret [.int .i64 0] (show (.int .i64 0 : Value) = (.int .i64 (Sp.hasF ps (Sp.lim 1048576 x) (Sp.lim 1048576 y) 0 (-1))) from (congrArg (Value.int .i64) (show 0 = (Sp.hasF ps (Sp.lim 1048576 x) (Sp.lim 1048576 y) 0 (-1)) from by (first | exact (by rw [← hh, Sp.hasF_on hil hj (by assumption)]) | exact (by rw [← hh, Sp.hasF_end hge])))))
    · refine aw_sk ?_
      refine then_normal ?_
      refine aw_sq 63454 63455 ?_
      refine aw_p 126909 (
        .a 5 4 <| .nil _ _) ?_
      refine aw_cd 253818 253819 (decide ((Sp.lim 1048576 ((ps.getD i (0, 0)).2)) > (Sp.lim 1048576 ((ps.getD j (0, 0)).2)))) (fun h3 => ?_) (fun h3 => ?_)
      · have h3p : (((Sp.lim 1048576 ((ps.getD i (0, 0)).2)) > (Sp.lim 1048576 ((ps.getD j (0, 0)).2)))) := by first | (simpa using h3) | (have h3q := h3; simp at h3q; omega) | (have h3q := bx1 h3; simp at h3q; omega)
        refine aw_p1 (
          .a 4 4 <| .nil _ _) ?_
        refine then_normal ?_
        rcases Bool.eq_false_or_eq_true (decide ((Sp.lim 1048576 ((ps.getD j (0, 0)).2)) < (Sp.lim 1048576 y))) with h4 | h4
        · have h4p : (((Sp.lim 1048576 ((ps.getD j (0, 0)).2)) < (Sp.lim 1048576 y))) := by first | (simpa using h4) | (have h4q := h4; simp at h4q; omega) | (have h4q := bx1 h4; simp at h4q; omega)
          rcases Bool.eq_false_or_eq_true (decide ((Sp.lim 1048576 y) ≤ (Sp.lim 1048576 ((ps.getD i (0, 0)).2)))) with h5 | h5
          · have h5p : (((Sp.lim 1048576 y) ≤ (Sp.lim 1048576 ((ps.getD i (0, 0)).2)))) := by first | (simpa using h5) | (have h5q := h5; simp at h5q; omega) | (have h5q := bx1 h5; simp at h5q; omega)
            refine aw_p 126911 (
              .a 4 4 <| .p (does_b true (h4)) <| .a 5 4 <| .p (does_b true (h5)) <| .a 5 4 <|
              .p (does_c (turn_in (Sp.lim 1048576 ((ps.getD j (0, 0)).1)) (Sp.lim 1048576 ((ps.getD j (0, 0)).2)) (Sp.lim 1048576 ((ps.getD i (0, 0)).1)) (Sp.lim 1048576 ((ps.getD i (0, 0)).2)) (Sp.lim 1048576 x) (Sp.lim 1048576 y) (by omega) (by omega) (by omega) (by omega) (by omega) (by omega) (by omega) (by omega) (by omega) (by omega) (by omega) (by omega))) <|
              .a 2 4 <| .nil _ _) ?_
            refine aw_cd 253822 253823 (decide ((Sp.cmp (Sp.crs (Sp.lim 1048576 ((ps.getD j (0, 0)).1)) (Sp.lim 1048576 ((ps.getD j (0, 0)).2)) (Sp.lim 1048576 ((ps.getD i (0, 0)).1)) (Sp.lim 1048576 ((ps.getD i (0, 0)).2)) (Sp.lim 1048576 x) (Sp.lim 1048576 y)) 0) > 0)) (fun h6 => ?_) (fun h6 => ?_)
            · have h6p : (((Sp.cmp (Sp.crs (Sp.lim 1048576 ((ps.getD j (0, 0)).1)) (Sp.lim 1048576 ((ps.getD j (0, 0)).2)) (Sp.lim 1048576 ((ps.getD i (0, 0)).1)) (Sp.lim 1048576 ((ps.getD i (0, 0)).2)) (Sp.lim 1048576 x) (Sp.lim 1048576 y)) 0) > 0)) := by first | (simpa using h6) | (have h6q := h6; simp at h6q; omega) | (have h6q := bx1 h6; simp at h6q; omega)
              refine aw_p1 (
                .a 1 4 <| .p (does_i (0 - out) (wrap_i64 (by omega) (by omega)) .i64) <| .a 1 4 <| .nil _ _) ?_
              refine block_normal ?_
              refine then_normal ?_
              refine aw_p1 (
                .p (does_i (((i : Nat) : Int) + 1) (wrap_i64 (by omega) (by omega)) .i64) <| .a 1 4 <| .nil _ _) ?_
              refine then_normal ?_
              refine al_w [(0, .slice (some ⟨0, 0, none⟩) ps.length 0), (3, .pointer (some ⟨1, 0, none⟩)), (5, .int .i64 (0 - out)), (12, .int .i64 ((ps.length : Nat) : Int)), (13, .int .i64 (((i + 1) : Nat) : Int))] [(0, ⟨(ps.flatMap ptc), 27, true, 2⟩), (1, ⟨[.int .i64 (Sp.lim 1048576 x), .int .i64 (Sp.lim 1048576 y)], 27, true, 2⟩)] ?_ (hc := (by simp [closedB, valsB, valB, List.all_eq_true, List.mem_flatMap, List.mem_range, List.mem_map, i64v, ptc, flat1]; try (intros; simp [valsB, valB, flat1]); try decide))
              exact ih1 ((i + 1), (0 - out)) (show ((i + 1) ≤ ps.length) ∧ (-1 ≤ (0 - out) ∧ (0 - out) ≤ 1) ∧ (Sp.hasF ps (Sp.lim 1048576 x) (Sp.lim 1048576 y) (i + 1) (0 - out) = Sp.hasF ps (Sp.lim 1048576 x) (Sp.lim 1048576 y) 0 (-1)) from ⟨by omega, by omega, by (rw [← hh]; first | exact Sp.hasF_no hil hj (by assumption) (Sp.crX_d1 (by assumption) (by assumption)) | exact Sp.hasF_no hil hj (by assumption) (Sp.crX_d2 (by assumption) (by assumption) (by assumption)) | exact Sp.hasF_no hil hj (by assumption) (Sp.crX_d3 (by assumption) (by assumption) (by assumption) (by assumption)) | exact Sp.hasF_cr hil hj (by assumption) (Sp.crX_d4 (by assumption) (by assumption) (by assumption) (by assumption)) | exact Sp.hasF_no hil hj (by assumption) (Sp.crX_u1 (by assumption) (by assumption)) | exact Sp.hasF_no hil hj (by assumption) (Sp.crX_u2 (by assumption) (by assumption) (by assumption)) | exact Sp.hasF_no hil hj (by assumption) (Sp.crX_u3 (by assumption) (by assumption) (by assumption) (by assumption)) | exact Sp.hasF_cr hil hj (by assumption) (Sp.crX_u4 (by assumption) (by assumption) (by assumption) (by assumption)))⟩) (show ps.length - (i + 1) < ps.length - i from by omega)
            · have h6p : ¬ (((Sp.cmp (Sp.crs (Sp.lim 1048576 ((ps.getD j (0, 0)).1)) (Sp.lim 1048576 ((ps.getD j (0, 0)).2)) (Sp.lim 1048576 ((ps.getD i (0, 0)).1)) (Sp.lim 1048576 ((ps.getD i (0, 0)).2)) (Sp.lim 1048576 x) (Sp.lim 1048576 y)) 0) > 0)) := by first | (simpa using h6) | (have h6q := h6; simp at h6q; omega) | (have h6q := bx2 h6; simp at h6q; omega)
              refine aw_sk ?_
              refine block_normal ?_
              refine then_normal ?_
              refine aw_p1 (
                .p (does_i (((i : Nat) : Int) + 1) (wrap_i64 (by omega) (by omega)) .i64) <| .a 1 4 <| .nil _ _) ?_
              refine then_normal ?_
              refine al_w [(0, .slice (some ⟨0, 0, none⟩) ps.length 0), (3, .pointer (some ⟨1, 0, none⟩)), (5, .int .i64 out), (12, .int .i64 ((ps.length : Nat) : Int)), (13, .int .i64 (((i + 1) : Nat) : Int))] [(0, ⟨(ps.flatMap ptc), 27, true, 2⟩), (1, ⟨[.int .i64 (Sp.lim 1048576 x), .int .i64 (Sp.lim 1048576 y)], 27, true, 2⟩)] ?_ (hc := (by simp [closedB, valsB, valB, List.all_eq_true, List.mem_flatMap, List.mem_range, List.mem_map, i64v, ptc, flat1]; try (intros; simp [valsB, valB, flat1]); try decide))
              exact ih1 ((i + 1), out) (show ((i + 1) ≤ ps.length) ∧ (-1 ≤ out ∧ out ≤ 1) ∧ (Sp.hasF ps (Sp.lim 1048576 x) (Sp.lim 1048576 y) (i + 1) out = Sp.hasF ps (Sp.lim 1048576 x) (Sp.lim 1048576 y) 0 (-1)) from ⟨by omega, by omega, by (rw [← hh]; first | exact Sp.hasF_no hil hj (by assumption) (Sp.crX_d1 (by assumption) (by assumption)) | exact Sp.hasF_no hil hj (by assumption) (Sp.crX_d2 (by assumption) (by assumption) (by assumption)) | exact Sp.hasF_no hil hj (by assumption) (Sp.crX_d3 (by assumption) (by assumption) (by assumption) (by assumption)) | exact Sp.hasF_cr hil hj (by assumption) (Sp.crX_d4 (by assumption) (by assumption) (by assumption) (by assumption)) | exact Sp.hasF_no hil hj (by assumption) (Sp.crX_u1 (by assumption) (by assumption)) | exact Sp.hasF_no hil hj (by assumption) (Sp.crX_u2 (by assumption) (by assumption) (by assumption)) | exact Sp.hasF_no hil hj (by assumption) (Sp.crX_u3 (by assumption) (by assumption) (by assumption) (by assumption)) | exact Sp.hasF_cr hil hj (by assumption) (Sp.crX_u4 (by assumption) (by assumption) (by assumption) (by assumption)))⟩) (show ps.length - (i + 1) < ps.length - i from by omega)
          · have h5p : ¬ (((Sp.lim 1048576 y) ≤ (Sp.lim 1048576 ((ps.getD i (0, 0)).2)))) := by first | (simpa using h5) | (have h5q := h5; simp at h5q; omega) | (have h5q := bx2 h5; simp at h5q; omega)
            refine aw_p 126911 (
              .a 4 4 <| .p (does_b true (h4)) <| .a 5 4 <| .p (does_b false (h5)) <| .a 8 4 <| .nil _ _) ?_
            refine aw_fl 253823 ?_
            refine aw_sk ?_
            refine block_normal ?_
            refine then_normal ?_
            refine aw_p1 (
              .p (does_i (((i : Nat) : Int) + 1) (wrap_i64 (by omega) (by omega)) .i64) <| .a 1 4 <| .nil _ _) ?_
            refine then_normal ?_
            refine al_w [(0, .slice (some ⟨0, 0, none⟩) ps.length 0), (3, .pointer (some ⟨1, 0, none⟩)), (5, .int .i64 out), (12, .int .i64 ((ps.length : Nat) : Int)), (13, .int .i64 (((i + 1) : Nat) : Int))] [(0, ⟨(ps.flatMap ptc), 27, true, 2⟩), (1, ⟨[.int .i64 (Sp.lim 1048576 x), .int .i64 (Sp.lim 1048576 y)], 27, true, 2⟩)] ?_ (hc := (by simp [closedB, valsB, valB, List.all_eq_true, List.mem_flatMap, List.mem_range, List.mem_map, i64v, ptc, flat1]; try (intros; simp [valsB, valB, flat1]); try decide))
            exact ih1 ((i + 1), out) (show ((i + 1) ≤ ps.length) ∧ (-1 ≤ out ∧ out ≤ 1) ∧ (Sp.hasF ps (Sp.lim 1048576 x) (Sp.lim 1048576 y) (i + 1) out = Sp.hasF ps (Sp.lim 1048576 x) (Sp.lim 1048576 y) 0 (-1)) from ⟨by omega, by omega, by (rw [← hh]; first | exact Sp.hasF_no hil hj (by assumption) (Sp.crX_d1 (by assumption) (by assumption)) | exact Sp.hasF_no hil hj (by assumption) (Sp.crX_d2 (by assumption) (by assumption) (by assumption)) | exact Sp.hasF_no hil hj (by assumption) (Sp.crX_d3 (by assumption) (by assumption) (by assumption) (by assumption)) | exact Sp.hasF_cr hil hj (by assumption) (Sp.crX_d4 (by assumption) (by assumption) (by assumption) (by assumption)) | exact Sp.hasF_no hil hj (by assumption) (Sp.crX_u1 (by assumption) (by assumption)) | exact Sp.hasF_no hil hj (by assumption) (Sp.crX_u2 (by assumption) (by assumption) (by assumption)) | exact Sp.hasF_no hil hj (by assumption) (Sp.crX_u3 (by assumption) (by assumption) (by assumption) (by assumption)) | exact Sp.hasF_cr hil hj (by assumption) (Sp.crX_u4 (by assumption) (by assumption) (by assumption) (by assumption)))⟩) (show ps.length - (i + 1) < ps.length - i from by omega)
        · have h4p : ¬ (((Sp.lim 1048576 ((ps.getD j (0, 0)).2)) < (Sp.lim 1048576 y))) := by first | (simpa using h4) | (have h4q := h4; simp at h4q; omega) | (have h4q := bx2 h4; simp at h4q; omega)
          refine aw_p 126911 (
            .a 4 4 <| .p (does_b false (h4)) <| .a 14 4 <| .nil _ _) ?_
          refine aw_fl 253823 ?_
          refine aw_sk ?_
          refine block_normal ?_
          refine then_normal ?_
          refine aw_p1 (
            .p (does_i (((i : Nat) : Int) + 1) (wrap_i64 (by omega) (by omega)) .i64) <| .a 1 4 <| .nil _ _) ?_
          refine then_normal ?_
          refine al_w [(0, .slice (some ⟨0, 0, none⟩) ps.length 0), (3, .pointer (some ⟨1, 0, none⟩)), (5, .int .i64 out), (12, .int .i64 ((ps.length : Nat) : Int)), (13, .int .i64 (((i + 1) : Nat) : Int))] [(0, ⟨(ps.flatMap ptc), 27, true, 2⟩), (1, ⟨[.int .i64 (Sp.lim 1048576 x), .int .i64 (Sp.lim 1048576 y)], 27, true, 2⟩)] ?_ (hc := (by simp [closedB, valsB, valB, List.all_eq_true, List.mem_flatMap, List.mem_range, List.mem_map, i64v, ptc, flat1]; try (intros; simp [valsB, valB, flat1]); try decide))
          exact ih1 ((i + 1), out) (show ((i + 1) ≤ ps.length) ∧ (-1 ≤ out ∧ out ≤ 1) ∧ (Sp.hasF ps (Sp.lim 1048576 x) (Sp.lim 1048576 y) (i + 1) out = Sp.hasF ps (Sp.lim 1048576 x) (Sp.lim 1048576 y) 0 (-1)) from ⟨by omega, by omega, by (rw [← hh]; first | exact Sp.hasF_no hil hj (by assumption) (Sp.crX_d1 (by assumption) (by assumption)) | exact Sp.hasF_no hil hj (by assumption) (Sp.crX_d2 (by assumption) (by assumption) (by assumption)) | exact Sp.hasF_no hil hj (by assumption) (Sp.crX_d3 (by assumption) (by assumption) (by assumption) (by assumption)) | exact Sp.hasF_cr hil hj (by assumption) (Sp.crX_d4 (by assumption) (by assumption) (by assumption) (by assumption)) | exact Sp.hasF_no hil hj (by assumption) (Sp.crX_u1 (by assumption) (by assumption)) | exact Sp.hasF_no hil hj (by assumption) (Sp.crX_u2 (by assumption) (by assumption) (by assumption)) | exact Sp.hasF_no hil hj (by assumption) (Sp.crX_u3 (by assumption) (by assumption) (by assumption) (by assumption)) | exact Sp.hasF_cr hil hj (by assumption) (Sp.crX_u4 (by assumption) (by assumption) (by assumption) (by assumption)))⟩) (show ps.length - (i + 1) < ps.length - i from by omega)
      · have h3p : ¬ (((Sp.lim 1048576 ((ps.getD i (0, 0)).2)) > (Sp.lim 1048576 ((ps.getD j (0, 0)).2)))) := by first | (simpa using h3) | (have h3q := h3; simp at h3q; omega) | (have h3q := bx2 h3; simp at h3q; omega)
        refine aw_sk ?_
        refine then_normal ?_
        rcases Bool.eq_false_or_eq_true (decide ((Sp.lim 1048576 ((ps.getD i (0, 0)).2)) < (Sp.lim 1048576 y))) with h7 | h7
        · have h7p : (((Sp.lim 1048576 ((ps.getD i (0, 0)).2)) < (Sp.lim 1048576 y))) := by first | (simpa using h7) | (have h7q := h7; simp at h7q; omega) | (have h7q := bx1 h7; simp at h7q; omega)
          rcases Bool.eq_false_or_eq_true (decide ((Sp.lim 1048576 y) ≤ (Sp.lim 1048576 ((ps.getD j (0, 0)).2)))) with h8 | h8
          · have h8p : (((Sp.lim 1048576 y) ≤ (Sp.lim 1048576 ((ps.getD j (0, 0)).2)))) := by first | (simpa using h8) | (have h8q := h8; simp at h8q; omega) | (have h8q := bx1 h8; simp at h8q; omega)
            refine aw_p 126911 (
              .a 4 4 <| .p (does_b true (h7)) <| .a 5 4 <| .p (does_b true (h8)) <| .a 5 4 <|
              .p (does_c (turn_in (Sp.lim 1048576 ((ps.getD i (0, 0)).1)) (Sp.lim 1048576 ((ps.getD i (0, 0)).2)) (Sp.lim 1048576 ((ps.getD j (0, 0)).1)) (Sp.lim 1048576 ((ps.getD j (0, 0)).2)) (Sp.lim 1048576 x) (Sp.lim 1048576 y) (by omega) (by omega) (by omega) (by omega) (by omega) (by omega) (by omega) (by omega) (by omega) (by omega) (by omega) (by omega))) <|
              .a 2 4 <| .nil _ _) ?_
            refine aw_cd 253822 253823 (decide ((Sp.cmp (Sp.crs (Sp.lim 1048576 ((ps.getD i (0, 0)).1)) (Sp.lim 1048576 ((ps.getD i (0, 0)).2)) (Sp.lim 1048576 ((ps.getD j (0, 0)).1)) (Sp.lim 1048576 ((ps.getD j (0, 0)).2)) (Sp.lim 1048576 x) (Sp.lim 1048576 y)) 0) > 0)) (fun h9 => ?_) (fun h9 => ?_)
            · have h9p : (((Sp.cmp (Sp.crs (Sp.lim 1048576 ((ps.getD i (0, 0)).1)) (Sp.lim 1048576 ((ps.getD i (0, 0)).2)) (Sp.lim 1048576 ((ps.getD j (0, 0)).1)) (Sp.lim 1048576 ((ps.getD j (0, 0)).2)) (Sp.lim 1048576 x) (Sp.lim 1048576 y)) 0) > 0)) := by first | (simpa using h9) | (have h9q := h9; simp at h9q; omega) | (have h9q := bx1 h9; simp at h9q; omega)
              refine aw_p1 (
                .a 1 4 <| .p (does_i (0 - out) (wrap_i64 (by omega) (by omega)) .i64) <| .a 1 4 <| .nil _ _) ?_
              refine block_normal ?_
              refine then_normal ?_
              refine aw_p1 (
                .p (does_i (((i : Nat) : Int) + 1) (wrap_i64 (by omega) (by omega)) .i64) <| .a 1 4 <| .nil _ _) ?_
              refine then_normal ?_
              refine al_w [(0, .slice (some ⟨0, 0, none⟩) ps.length 0), (3, .pointer (some ⟨1, 0, none⟩)), (5, .int .i64 (0 - out)), (12, .int .i64 ((ps.length : Nat) : Int)), (13, .int .i64 (((i + 1) : Nat) : Int))] [(0, ⟨(ps.flatMap ptc), 27, true, 2⟩), (1, ⟨[.int .i64 (Sp.lim 1048576 x), .int .i64 (Sp.lim 1048576 y)], 27, true, 2⟩)] ?_ (hc := (by simp [closedB, valsB, valB, List.all_eq_true, List.mem_flatMap, List.mem_range, List.mem_map, i64v, ptc, flat1]; try (intros; simp [valsB, valB, flat1]); try decide))
              exact ih1 ((i + 1), (0 - out)) (show ((i + 1) ≤ ps.length) ∧ (-1 ≤ (0 - out) ∧ (0 - out) ≤ 1) ∧ (Sp.hasF ps (Sp.lim 1048576 x) (Sp.lim 1048576 y) (i + 1) (0 - out) = Sp.hasF ps (Sp.lim 1048576 x) (Sp.lim 1048576 y) 0 (-1)) from ⟨by omega, by omega, by (rw [← hh]; first | exact Sp.hasF_no hil hj (by assumption) (Sp.crX_d1 (by assumption) (by assumption)) | exact Sp.hasF_no hil hj (by assumption) (Sp.crX_d2 (by assumption) (by assumption) (by assumption)) | exact Sp.hasF_no hil hj (by assumption) (Sp.crX_d3 (by assumption) (by assumption) (by assumption) (by assumption)) | exact Sp.hasF_cr hil hj (by assumption) (Sp.crX_d4 (by assumption) (by assumption) (by assumption) (by assumption)) | exact Sp.hasF_no hil hj (by assumption) (Sp.crX_u1 (by assumption) (by assumption)) | exact Sp.hasF_no hil hj (by assumption) (Sp.crX_u2 (by assumption) (by assumption) (by assumption)) | exact Sp.hasF_no hil hj (by assumption) (Sp.crX_u3 (by assumption) (by assumption) (by assumption) (by assumption)) | exact Sp.hasF_cr hil hj (by assumption) (Sp.crX_u4 (by assumption) (by assumption) (by assumption) (by assumption)))⟩) (show ps.length - (i + 1) < ps.length - i from by omega)
            · have h9p : ¬ (((Sp.cmp (Sp.crs (Sp.lim 1048576 ((ps.getD i (0, 0)).1)) (Sp.lim 1048576 ((ps.getD i (0, 0)).2)) (Sp.lim 1048576 ((ps.getD j (0, 0)).1)) (Sp.lim 1048576 ((ps.getD j (0, 0)).2)) (Sp.lim 1048576 x) (Sp.lim 1048576 y)) 0) > 0)) := by first | (simpa using h9) | (have h9q := h9; simp at h9q; omega) | (have h9q := bx2 h9; simp at h9q; omega)
              refine aw_sk ?_
              refine block_normal ?_
              refine then_normal ?_
              refine aw_p1 (
                .p (does_i (((i : Nat) : Int) + 1) (wrap_i64 (by omega) (by omega)) .i64) <| .a 1 4 <| .nil _ _) ?_
              refine then_normal ?_
              refine al_w [(0, .slice (some ⟨0, 0, none⟩) ps.length 0), (3, .pointer (some ⟨1, 0, none⟩)), (5, .int .i64 out), (12, .int .i64 ((ps.length : Nat) : Int)), (13, .int .i64 (((i + 1) : Nat) : Int))] [(0, ⟨(ps.flatMap ptc), 27, true, 2⟩), (1, ⟨[.int .i64 (Sp.lim 1048576 x), .int .i64 (Sp.lim 1048576 y)], 27, true, 2⟩)] ?_ (hc := (by simp [closedB, valsB, valB, List.all_eq_true, List.mem_flatMap, List.mem_range, List.mem_map, i64v, ptc, flat1]; try (intros; simp [valsB, valB, flat1]); try decide))
              exact ih1 ((i + 1), out) (show ((i + 1) ≤ ps.length) ∧ (-1 ≤ out ∧ out ≤ 1) ∧ (Sp.hasF ps (Sp.lim 1048576 x) (Sp.lim 1048576 y) (i + 1) out = Sp.hasF ps (Sp.lim 1048576 x) (Sp.lim 1048576 y) 0 (-1)) from ⟨by omega, by omega, by (rw [← hh]; first | exact Sp.hasF_no hil hj (by assumption) (Sp.crX_d1 (by assumption) (by assumption)) | exact Sp.hasF_no hil hj (by assumption) (Sp.crX_d2 (by assumption) (by assumption) (by assumption)) | exact Sp.hasF_no hil hj (by assumption) (Sp.crX_d3 (by assumption) (by assumption) (by assumption) (by assumption)) | exact Sp.hasF_cr hil hj (by assumption) (Sp.crX_d4 (by assumption) (by assumption) (by assumption) (by assumption)) | exact Sp.hasF_no hil hj (by assumption) (Sp.crX_u1 (by assumption) (by assumption)) | exact Sp.hasF_no hil hj (by assumption) (Sp.crX_u2 (by assumption) (by assumption) (by assumption)) | exact Sp.hasF_no hil hj (by assumption) (Sp.crX_u3 (by assumption) (by assumption) (by assumption) (by assumption)) | exact Sp.hasF_cr hil hj (by assumption) (Sp.crX_u4 (by assumption) (by assumption) (by assumption) (by assumption)))⟩) (show ps.length - (i + 1) < ps.length - i from by omega)
          · have h8p : ¬ (((Sp.lim 1048576 y) ≤ (Sp.lim 1048576 ((ps.getD j (0, 0)).2)))) := by first | (simpa using h8) | (have h8q := h8; simp at h8q; omega) | (have h8q := bx2 h8; simp at h8q; omega)
            refine aw_p 126911 (
              .a 4 4 <| .p (does_b true (h7)) <| .a 5 4 <| .p (does_b false (h8)) <| .a 8 4 <| .nil _ _) ?_
            refine aw_fl 253823 ?_
            refine aw_sk ?_
            refine block_normal ?_
            refine then_normal ?_
            refine aw_p1 (
              .p (does_i (((i : Nat) : Int) + 1) (wrap_i64 (by omega) (by omega)) .i64) <| .a 1 4 <| .nil _ _) ?_
            refine then_normal ?_
            refine al_w [(0, .slice (some ⟨0, 0, none⟩) ps.length 0), (3, .pointer (some ⟨1, 0, none⟩)), (5, .int .i64 out), (12, .int .i64 ((ps.length : Nat) : Int)), (13, .int .i64 (((i + 1) : Nat) : Int))] [(0, ⟨(ps.flatMap ptc), 27, true, 2⟩), (1, ⟨[.int .i64 (Sp.lim 1048576 x), .int .i64 (Sp.lim 1048576 y)], 27, true, 2⟩)] ?_ (hc := (by simp [closedB, valsB, valB, List.all_eq_true, List.mem_flatMap, List.mem_range, List.mem_map, i64v, ptc, flat1]; try (intros; simp [valsB, valB, flat1]); try decide))
            exact ih1 ((i + 1), out) (show ((i + 1) ≤ ps.length) ∧ (-1 ≤ out ∧ out ≤ 1) ∧ (Sp.hasF ps (Sp.lim 1048576 x) (Sp.lim 1048576 y) (i + 1) out = Sp.hasF ps (Sp.lim 1048576 x) (Sp.lim 1048576 y) 0 (-1)) from ⟨by omega, by omega, by (rw [← hh]; first | exact Sp.hasF_no hil hj (by assumption) (Sp.crX_d1 (by assumption) (by assumption)) | exact Sp.hasF_no hil hj (by assumption) (Sp.crX_d2 (by assumption) (by assumption) (by assumption)) | exact Sp.hasF_no hil hj (by assumption) (Sp.crX_d3 (by assumption) (by assumption) (by assumption) (by assumption)) | exact Sp.hasF_cr hil hj (by assumption) (Sp.crX_d4 (by assumption) (by assumption) (by assumption) (by assumption)) | exact Sp.hasF_no hil hj (by assumption) (Sp.crX_u1 (by assumption) (by assumption)) | exact Sp.hasF_no hil hj (by assumption) (Sp.crX_u2 (by assumption) (by assumption) (by assumption)) | exact Sp.hasF_no hil hj (by assumption) (Sp.crX_u3 (by assumption) (by assumption) (by assumption) (by assumption)) | exact Sp.hasF_cr hil hj (by assumption) (Sp.crX_u4 (by assumption) (by assumption) (by assumption) (by assumption)))⟩) (show ps.length - (i + 1) < ps.length - i from by omega)
        · have h7p : ¬ (((Sp.lim 1048576 ((ps.getD i (0, 0)).2)) < (Sp.lim 1048576 y))) := by first | (simpa using h7) | (have h7q := h7; simp at h7q; omega) | (have h7q := bx2 h7; simp at h7q; omega)
          refine aw_p 126911 (
            .a 4 4 <| .p (does_b false (h7)) <| .a 14 4 <| .nil _ _) ?_
          refine aw_fl 253823 ?_
          refine aw_sk ?_
          refine block_normal ?_
          refine then_normal ?_
          refine aw_p1 (
            .p (does_i (((i : Nat) : Int) + 1) (wrap_i64 (by omega) (by omega)) .i64) <| .a 1 4 <| .nil _ _) ?_
          refine then_normal ?_
          refine al_w [(0, .slice (some ⟨0, 0, none⟩) ps.length 0), (3, .pointer (some ⟨1, 0, none⟩)), (5, .int .i64 out), (12, .int .i64 ((ps.length : Nat) : Int)), (13, .int .i64 (((i + 1) : Nat) : Int))] [(0, ⟨(ps.flatMap ptc), 27, true, 2⟩), (1, ⟨[.int .i64 (Sp.lim 1048576 x), .int .i64 (Sp.lim 1048576 y)], 27, true, 2⟩)] ?_ (hc := (by simp [closedB, valsB, valB, List.all_eq_true, List.mem_flatMap, List.mem_range, List.mem_map, i64v, ptc, flat1]; try (intros; simp [valsB, valB, flat1]); try decide))
          exact ih1 ((i + 1), out) (show ((i + 1) ≤ ps.length) ∧ (-1 ≤ out ∧ out ≤ 1) ∧ (Sp.hasF ps (Sp.lim 1048576 x) (Sp.lim 1048576 y) (i + 1) out = Sp.hasF ps (Sp.lim 1048576 x) (Sp.lim 1048576 y) 0 (-1)) from ⟨by omega, by omega, by (rw [← hh]; first | exact Sp.hasF_no hil hj (by assumption) (Sp.crX_d1 (by assumption) (by assumption)) | exact Sp.hasF_no hil hj (by assumption) (Sp.crX_d2 (by assumption) (by assumption) (by assumption)) | exact Sp.hasF_no hil hj (by assumption) (Sp.crX_d3 (by assumption) (by assumption) (by assumption) (by assumption)) | exact Sp.hasF_cr hil hj (by assumption) (Sp.crX_d4 (by assumption) (by assumption) (by assumption) (by assumption)) | exact Sp.hasF_no hil hj (by assumption) (Sp.crX_u1 (by assumption) (by assumption)) | exact Sp.hasF_no hil hj (by assumption) (Sp.crX_u2 (by assumption) (by assumption) (by assumption)) | exact Sp.hasF_no hil hj (by assumption) (Sp.crX_u3 (by assumption) (by assumption) (by assumption) (by assumption)) | exact Sp.hasF_cr hil hj (by assumption) (Sp.crX_u4 (by assumption) (by assumption) (by assumption) (by assumption)))⟩) (show ps.length - (i + 1) < ps.length - i from by omega)
  · have h1p : ¬ ((((i : Nat) : Int) < ((ps.length : Nat) : Int))) := by first | (simpa using h1) | (have h1q := h1; simp at h1q; omega) | (have h1q := bx2 h1; simp at h1q; omega)
    have hge : ¬ i < ps.length := by omega
    refine aw_ex 0 ?_
    refine then_exit ?_
    refine then_exit ?_
    refine block_exit ?_
    refine then_normal ?_
    refine aw_p 63 (
      .a 2 2 <| .nil _ _) ?_
    refine aw_rt ?_
    exact en_ret [.int .i64 out] (show (.int .i64 out : Value) = (.int .i64 (Sp.hasF ps (Sp.lim 1048576 x) (Sp.lim 1048576 y) 0 (-1))) from (congrArg (Value.int .i64) (show out = (Sp.hasF ps (Sp.lim 1048576 x) (Sp.lim 1048576 y) 0 (-1)) from by (first | exact (by rw [← hh, Sp.hasF_on hil hj (by assumption)]) | exact (by rw [← hh, Sp.hasF_end hge])))))
theorem twice_own (ps : List (Int × Int)) (hz : ps.length ≤ 9223372036854775807) :
    AC Try.prog 12 1 ([.slice (some ⟨0, 0, none⟩) ps.length 0]) [(0, ⟨(ps.flatMap ptc), 27, true, 2⟩)] (.int .i64 (Sp.twF ps 1 0)) [(0, ⟨(ps.flatMap ptc), 27, true, 2⟩)] := by
  refine ac_in Try.func12 (fun w0 W pin => ?_)
  refine aw_p 3 (
    .a 1 1 <| .nil _ _) ?_
  refine aw_p 7 (
    .a 1 1 <| .nil _ _) ?_
  refine aw_sq 14 15 ?_
  refine aw_p 29 (
    .a 1 1 <| .nil _ _) ?_
  refine aw_bl 0 59 ?_
  refine aw_lp 119 ?_
  refine al_w [(0, .slice (some ⟨0, 0, none⟩) ps.length 0), (3, .int .i64 0), (4, .int .i64 ((1 + 1 : Nat) : Int))] [(0, ⟨(ps.flatMap ptc), 27, true, 2⟩)] ?_ (hc := (by simp [closedB, valsB, valB, List.all_eq_true, List.mem_flatMap, List.mem_range, List.mem_map, i64v, ptc, flat1]; try (intros; simp [valsB, valB, flat1]); try decide))
  refine al_ind (fun i : Nat × Int => (fun (k : Nat) (s : Int) => mkSt 1 [(0, .slice (some ⟨0, 0, none⟩) ps.length 0), (3, .int .i64 s), (4, .int .i64 ((k + 1 : Nat) : Int))] [(0, ⟨(ps.flatMap ptc), 27, true, 2⟩)]) i.1 i.2) (fun i : Nat × Int => (fun (k : Nat) (s : Int) => (1 ≤ k ∧ (k ≤ ps.length ∨ k = 1)) ∧ (Sp.twF ps k s = Sp.twF ps 1 0)) i.1 i.2) (fun i : Nat × Int => (fun (k : Nat) (s : Int) => ps.length - k) i.1 i.2) (fun i hi1 ih1 => ?_) (1, 0) (show (1 ≤ 1 ∧ (1 ≤ ps.length ∨ 1 = 1)) ∧ (Sp.twF ps 1 0 = Sp.twF ps 1 0) from ⟨by omega, by rfl⟩)
  obtain ⟨k, s⟩ := i
  have hi1' : (1 ≤ k ∧ (k ≤ ps.length ∨ k = 1)) ∧ (Sp.twF ps k s = Sp.twF ps 1 0) := hi1
  obtain ⟨hi, hh⟩ := hi1'
  show AL _ _ _ (mkSt 1 [(0, .slice (some ⟨0, 0, none⟩) ps.length 0), (3, .int .i64 s), (4, .int .i64 ((k + 1 : Nat) : Int))] [(0, ⟨(ps.flatMap ptc), 27, true, 2⟩)]) _
  refine al_round ?_
  refine aw_sq 238 239 ?_
  refine aw_p 477 (
    .a 4 1 <| .nil _ _) ?_
  refine aw_cd 954 955 (decide (((k + 1 : Nat) : Int) < ((ps.length : Nat) : Int))) (fun h1 => ?_) (fun h1 => ?_)
  · have h1p : ((((k + 1 : Nat) : Int) < ((ps.length : Nat) : Int))) := by first | (simpa using h1) | (have h1q := h1; simp at h1q; omega) | (have h1q := bx1 h1; simp at h1q; omega)
    have hil : k + 1 < ps.length := by omega
    refine aw_sk ?_
    refine then_normal ?_
    refine aw_sq 478 479 ?_
    refine aw_bl 1 957 ?_
    refine aw_d1 (
      .a 2 1 <| .p (does_indexSlice (t := 24) (x := .tmp 12) (y := .const (.int .i64 0)) (k := 0) (off := 0) (n := ps.length) (c := 0) (z := 2) (kd := .i64) (j := 0) (by kernel_rfl) (by kernel_rfl) (by kernel_rfl) (by kernel_rfl) (by kernel_rfl) (by omega) (by omega)) <|
      .p (does_load (t := 27) (x := .tmp 13) (k := 0) (off := 0) (b := ⟨(ps.flatMap ptc), 27, true, 2⟩) (v := .agg #[.int .i64 ((ps.getD 0 (0, 0)).1), .int .i64 ((ps.getD 0 (0, 0)).2)]) (by kernel_rfl) (by kernel_rfl) (by kernel_rfl) (ldV_pair (j := 0) (by kernel_rfl) (by kernel_rfl) (by omega) (by omega))) <|
      .a 2 1 <| .p (does_i ((k : Nat) : Int) ((show (IntKind.wrap .i64 (((k + 1 : Nat) : Int) - 1)) = ((k : Nat) : Int) from ((wrap_i64 (by omega) (by omega)).trans (by omega)))) .i64) <|
      .p (does_indexSlice (t := 24) (x := .tmp 15) (y := .tmp 17) (k := 0) (off := 0) (n := ps.length) (c := 0) (z := 2) (kd := .i64) (j := ((k : Nat) : Int)) (by kernel_rfl) (by kernel_rfl) (by kernel_rfl) (by kernel_rfl) (by kernel_rfl) (by omega) (by omega)) <|
      .p (does_load (t := 27) (x := .tmp 18) (k := 0) (off := (0 + (((k : Nat) : Int)).toNat * 2)) (b := ⟨(ps.flatMap ptc), 27, true, 2⟩) (v := .agg #[.int .i64 ((ps.getD k (0, 0)).1), .int .i64 ((ps.getD k (0, 0)).2)]) (by kernel_rfl) (by kernel_rfl) (by kernel_rfl) (ldV_pair (j := k) (by kernel_rfl) (by kernel_rfl) (by omega) (by omega))) <|
      .a 2 1 <| .p (does_indexSlice (t := 24) (x := .tmp 20) (y := .tmp 21) (k := 0) (off := 0) (n := ps.length) (c := 0) (z := 2) (kd := .i64) (j := ((k + 1 : Nat) : Int)) (by kernel_rfl) (by kernel_rfl) (by kernel_rfl) (by kernel_rfl) (by kernel_rfl) (by omega) (by omega)) <|
      .p (does_load (t := 27) (x := .tmp 22) (k := 0) (off := (0 + (((k + 1 : Nat) : Int)).toNat * 2)) (b := ⟨(ps.flatMap ptc), 27, true, 2⟩) (v := .agg #[.int .i64 ((ps.getD (k + 1) (0, 0)).1), .int .i64 ((ps.getD (k + 1) (0, 0)).2)]) (by kernel_rfl) (by kernel_rfl) (by kernel_rfl) (ldV_pair (j := (k + 1)) (by kernel_rfl) (by kernel_rfl) (by omega) (by omega))) <|
      .p (does_c (cross_ok ((ps.getD 0 (0, 0)).1) ((ps.getD 0 (0, 0)).2) ((ps.getD k (0, 0)).1) ((ps.getD k (0, 0)).2) ((ps.getD (k + 1) (0, 0)).1) ((ps.getD (k + 1) (0, 0)).2))) <| .a 2 1 <| .nil _ _) ?_
    refine block_normal ?_
    refine then_normal ?_
    refine aw_p1 (
      .a 1 1 <| .p (does_i (((k + 1 : Nat) : Int) + 1) (wrap_i64 (by omega) (by omega)) .i64) <| .a 1 1 <| .nil _ _) ?_
    refine then_normal ?_
    refine al_w [(0, .slice (some ⟨0, 0, none⟩) ps.length 0), (3, .int .i64 (IntKind.wrap .i64 (s + (Sp.crs (Sp.lim 1048576 ((ps.getD 0 (0, 0)).1)) (Sp.lim 1048576 ((ps.getD 0 (0, 0)).2)) (Sp.lim 1048576 ((ps.getD k (0, 0)).1)) (Sp.lim 1048576 ((ps.getD k (0, 0)).2)) (Sp.lim 1048576 ((ps.getD (k + 1) (0, 0)).1)) (Sp.lim 1048576 ((ps.getD (k + 1) (0, 0)).2)))))), (4, .int .i64 (((k + 1) + 1 : Nat) : Int))] [(0, ⟨(ps.flatMap ptc), 27, true, 2⟩)] ?_ (hc := (by simp [closedB, valsB, valB, List.all_eq_true, List.mem_flatMap, List.mem_range, List.mem_map, i64v, ptc, flat1]; try (intros; simp [valsB, valB, flat1]); try decide))
    exact ih1 ((k + 1), (IntKind.wrap .i64 (s + (Sp.crs (Sp.lim 1048576 ((ps.getD 0 (0, 0)).1)) (Sp.lim 1048576 ((ps.getD 0 (0, 0)).2)) (Sp.lim 1048576 ((ps.getD k (0, 0)).1)) (Sp.lim 1048576 ((ps.getD k (0, 0)).2)) (Sp.lim 1048576 ((ps.getD (k + 1) (0, 0)).1)) (Sp.lim 1048576 ((ps.getD (k + 1) (0, 0)).2)))))) (show (1 ≤ (k + 1) ∧ ((k + 1) ≤ ps.length ∨ (k + 1) = 1)) ∧ (Sp.twF ps (k + 1) (IntKind.wrap .i64 (s + (Sp.crs (Sp.lim 1048576 ((ps.getD 0 (0, 0)).1)) (Sp.lim 1048576 ((ps.getD 0 (0, 0)).2)) (Sp.lim 1048576 ((ps.getD k (0, 0)).1)) (Sp.lim 1048576 ((ps.getD k (0, 0)).2)) (Sp.lim 1048576 ((ps.getD (k + 1) (0, 0)).1)) (Sp.lim 1048576 ((ps.getD (k + 1) (0, 0)).2))))) = Sp.twF ps 1 0) from ⟨by omega, by (rw [← hh]; exact Sp.twF_step hil)⟩) (show ps.length - (k + 1) < ps.length - k from by omega)
  · have h1p : ¬ ((((k + 1 : Nat) : Int) < ((ps.length : Nat) : Int))) := by first | (simpa using h1) | (have h1q := h1; simp at h1q; omega) | (have h1q := bx2 h1; simp at h1q; omega)
    have hge : ¬ k + 1 < ps.length := by omega
    refine aw_ex 0 ?_
    refine then_exit ?_
    refine then_exit ?_
    refine block_exit ?_
    refine then_normal ?_
    refine aw_p 31 (
      .a 2 1 <| .nil _ _) ?_
    refine aw_rt ?_
    exact en_ret [.int .i64 s] (show (.int .i64 s : Value) = (.int .i64 (Sp.twF ps 1 0)) from (congrArg (Value.int .i64) (show s = (Sp.twF ps 1 0) from by (exact (by rw [← hh, Sp.twF_end hge])))))
theorem hasn_own (ps : List (Int × Int)) (N : Nat) (hN : ps.length = N) (hz : N ≤ 9223372036854775807) (x y : Int) : AC Try.prog 8 1 [.slice (some ⟨0, 0, none⟩) N 0, .agg #[.int .i64 x, .int .i64 y]] [(0, ⟨(ps.flatMap ptc), 27, true, 2⟩)] (.int .i64 (Sp.hasF ps (Sp.lim 1048576 x) (Sp.lim 1048576 y) 0 (-1))) [(0, ⟨(ps.flatMap ptc), 27, true, 2⟩)] := by
  subst hN
  exact has_own ps hz x y
theorem twicen_own (ps : List (Int × Int)) (N : Nat) (hN : ps.length = N) (hz : N ≤ 9223372036854775807) : AC Try.prog 12 1 [.slice (some ⟨0, 0, none⟩) N 0] [(0, ⟨(ps.flatMap ptc), 27, true, 2⟩)] (.int .i64 (Sp.twF ps 1 0)) [(0, ⟨(ps.flatMap ptc), 27, true, 2⟩)] := by
  subst hN
  exact twice_own ps hz
end Go.Proofs.Ytomnkdlfmjdckaa.Am

namespace Go.Proofs.Ytomnkdlfmjdckaa.Am
open Go Go.Proofs
set_option maxRecDepth 100000
set_option maxHeartbeats 4000000
set_option linter.unusedVariables false
set_option linter.unusedSimpArgs false
theorem clone_own (ps : List (Int × Int)) (hn : 1 ≤ ps.length) (hz : ps.length ≤ 4096) :
    AC Try.prog 41 1 ([.slice (some ⟨0, 0, none⟩) ps.length 0]) [(0, ⟨(ps.flatMap ptc), 27, true, 2⟩)] (.slice (some ⟨1, 0, none⟩) ps.length 0) [(0, ⟨(ps.flatMap ptc), 27, true, 2⟩), (1, ⟨(ps.flatMap ptc), 27, true, 2⟩)] := by
  refine ac_in Try.func41 (fun w0 W pin => ?_)
  refine aw_p 3 (
    .a 1 2 <| .nil _ _) ?_
  refine aw_sq 6 7 ?_
  refine aw_p 13 (
    .a 1 2 <| .p (does_sln (k := 0) (off := 0) (n := ps.length) (c := 0) (by kernel_rfl) (by omega)) <| .nil _ _) ?_
  refine aw_fl 27 ?_
  refine aw_sk ?_
  refine then_normal ?_
  refine aw_p 15 (
    .a 2 2 <|
    .p (does_apg ps.length 1 27 2 16 2 0 0 0 ps.length ⟨[], 27, true, 2⟩ ⟨(ps.flatMap ptc), 27, true, 2⟩ (ps.flatMap ptc) (by kernel_rfl) (by kernel_rfl) (by kernel_rfl) (by kernel_rfl) (by kernel_rfl) (plain_pairs _) (by rw [Nat.zero_mul]; exact Nat.zero_le _) (by show _ ≤ (ps.flatMap ptc).length; rw [pairs_length]; omega) (.inl hn) (by omega) (by omega) (by show List.take _ [] ++ ((ps.flatMap ptc).drop _).take _ = _; rw [cut_pairs (j := 0) (k := ps.length) (by omega) (by omega), List.drop_zero, List.take_length, List.take_nil, List.nil_append]) (by omega)) <|
    .a 1 3 <| .nil _ _) ?_
  refine aw_rt ?_
  exact en_ret [.slice (some ⟨1, 0, none⟩) ps.length 0] (by kernel_rfl)
theorem rev_ok (ps : List (Int × Int)) (hn : 1 ≤ ps.length) (hz : ps.length ≤ 4096) :
    AC Try.prog 35 1 ([.slice (some ⟨0, 0, none⟩) ps.length 0]) [(0, ⟨(ps.flatMap ptc), 27, true, 2⟩)] (.tuple #[]) [(0, ⟨(ps.reverse.flatMap ptc), 27, true, 2⟩)] := by
  refine ac_in Try.func35 (fun w0 W pin => ?_)
  refine aw_p 3 (
    .a 2 1 <| .p (does_i ((ps.length - 1 : Nat) : Int) ((show (IntKind.wrap .i64 (((ps.length : Nat) : Int) - 1)) = ((ps.length - 1 : Nat) : Int) from ((wrap_i64 (by omega) (by omega)).trans (by omega)))) .i64) <| .a 2 1 <| .nil _ _) ?_
  refine aw_bl 0 7 ?_
  refine aw_w [(0, .slice (some ⟨0, 0, none⟩) ps.length 0), (2, .int .i64 0), (3, .int .i64 ((ps.length - 1 : Nat) : Int)), (4, .slice (some ⟨0, 0, none⟩) ps.length 0), (5, .int .i64 ((ps.length : Nat) : Int)), (6, .int .i64 ((ps.length - 1 : Nat) : Int))] [(0, ⟨((Sp.rvl ps 0).flatMap ptc), 27, true, 2⟩)] ?_ (by kernel_rfl) (by rw [Sp.rvl_0]; kernel_rfl) (hc := (by simp [closedB, valsB, valB, List.all_eq_true, List.mem_flatMap, List.mem_range, List.mem_map, i64v, ptc, flat1]; try (intros; simp [valsB, valB, flat1]); try decide))
  refine aw_lp 15 ?_
  refine al_w [(0, .slice (some ⟨0, 0, none⟩) ps.length 0), (2, .int .i64 ((0 : Nat) : Int)), (3, .int .i64 (((ps.length - 1) : Nat) : Int))] [(0, ⟨((Sp.rvl ps 0).flatMap ptc), 27, true, 2⟩)] ?_ (hc := (by simp [closedB, valsB, valB, List.all_eq_true, List.mem_flatMap, List.mem_range, List.mem_map, i64v, ptc, flat1]; try (intros; simp [valsB, valB, flat1]); try decide))
  refine al_ind (fun i : Nat × Nat => (fun (u : Nat) (v : Nat) => mkSt 1 [(0, .slice (some ⟨0, 0, none⟩) ps.length 0), (2, .int .i64 ((u : Nat) : Int)), (3, .int .i64 ((v : Nat) : Int))] [(0, ⟨((Sp.rvl ps u).flatMap ptc), 27, true, 2⟩)]) i.1 i.2) (fun i : Nat × Nat => (fun (u : Nat) (v : Nat) => (u + v + 1 = ps.length)) i.1 i.2) (fun i : Nat × Nat => (fun (u : Nat) (v : Nat) => v - u) i.1 i.2) (fun i hi1 ih1 => ?_) (0, (ps.length - 1)) (show (0 + (ps.length - 1) + 1 = ps.length) from by omega)
  obtain ⟨u, v⟩ := i
  have hi1' : (u + v + 1 = ps.length) := hi1
  have hv : u + v + 1 = ps.length := hi1'
  show AL _ _ _ (mkSt 1 [(0, .slice (some ⟨0, 0, none⟩) ps.length 0), (2, .int .i64 ((u : Nat) : Int)), (3, .int .i64 ((v : Nat) : Int))] [(0, ⟨((Sp.rvl ps u).flatMap ptc), 27, true, 2⟩)]) _
  refine al_round ?_
  refine aw_sq 30 31 ?_
  refine aw_p 61 (
    .a 3 1 <| .nil _ _) ?_
  refine aw_cd 122 123 (decide (((u : Nat) : Int) < ((v : Nat) : Int))) (fun h1 => ?_) (fun h1 => ?_)
  · have h1p : ((((u : Nat) : Int) < ((v : Nat) : Int))) := by first | (simpa using h1) | (have h1q := h1; simp at h1q; omega) | (have h1q := bx1 h1; simp at h1q; omega)
    have hlt : u < v := by omega
    refine aw_sk ?_
    refine then_normal ?_
    refine aw_sq 62 63 ?_
    refine aw_bl 1 125 ?_
    refine aw_d1 (
      .a 6 1 <| .p (does_indexSlice (t := 24) (x := .tmp 18) (y := .tmp 19) (k := 0) (off := 0) (n := ps.length) (c := 0) (z := 2) (kd := .i64) (j := ((v : Nat) : Int)) (by kernel_rfl) (by kernel_rfl) (by kernel_rfl) (by kernel_rfl) (by kernel_rfl) (by omega) (by omega)) <|
      .p (does_load (t := 27) (x := .tmp 20) (k := 0) (off := (0 + (((v : Nat) : Int)).toNat * 2)) (b := ⟨((Sp.rvl ps u).flatMap ptc), 27, true, 2⟩) (v := .agg #[.int .i64 (((Sp.rvl ps u).getD v (0, 0)).1), .int .i64 (((Sp.rvl ps u).getD v (0, 0)).2)]) (by kernel_rfl) (by kernel_rfl) (by kernel_rfl) (ldV_pair (j := v) (by kernel_rfl) (by kernel_rfl) (by omega) (by first | omega | (simp only [Sp.rvl_len, List.length_set]; omega)))) <|
      .a 2 1 <| .p (does_indexSlice (t := 24) (x := .tmp 22) (y := .tmp 23) (k := 0) (off := 0) (n := ps.length) (c := 0) (z := 2) (kd := .i64) (j := ((u : Nat) : Int)) (by kernel_rfl) (by kernel_rfl) (by kernel_rfl) (by kernel_rfl) (by kernel_rfl) (by omega) (by omega)) <|
      .p (does_load (t := 27) (x := .tmp 24) (k := 0) (off := (0 + (((u : Nat) : Int)).toNat * 2)) (b := ⟨((Sp.rvl ps u).flatMap ptc), 27, true, 2⟩) (v := .agg #[.int .i64 (((Sp.rvl ps u).getD u (0, 0)).1), .int .i64 (((Sp.rvl ps u).getD u (0, 0)).2)]) (by kernel_rfl) (by kernel_rfl) (by kernel_rfl) (ldV_pair (j := u) (by kernel_rfl) (by kernel_rfl) (by omega) (by first | omega | (simp only [Sp.rvl_len, List.length_set]; omega)))) <|
      .p (does_indexSlice (t := 24) (x := .tmp 14) (y := .tmp 15) (k := 0) (off := 0) (n := ps.length) (c := 0) (z := 2) (kd := .i64) (j := ((u : Nat) : Int)) (by kernel_rfl) (by kernel_rfl) (by kernel_rfl) (by kernel_rfl) (by kernel_rfl) (by omega) (by omega)) <|
      .p (does_store (t := 27) (x := .tmp 26) (y := .tmp 21) (k := 0) (off := (0 + (((u : Nat) : Int)).toNat * 2)) (b := ⟨((Sp.rvl ps u).flatMap ptc), 27, true, 2⟩) (v := .agg #[.int .i64 (((Sp.rvl ps u).getD v (0, 0)).1), .int .i64 (((Sp.rvl ps u).getD v (0, 0)).2)]) (cells := (((Sp.rvl ps u).set u ((((Sp.rvl ps u).getD v (0, 0)).1), (((Sp.rvl ps u).getD v (0, 0)).2))).flatMap ptc)) (by kernel_rfl) (by kernel_rfl) (by kernel_rfl) (by kernel_rfl) (by kernel_rfl) (by kernel_rfl) (by kernel_rfl) (Nat.ble_eq_true_of_le (by show _ + 2 ≤ ((Sp.rvl ps u).flatMap ptc).length; rw [pairs_length]; first | omega | (simp only [Sp.rvl_len, List.length_set]; omega))) (set_pair (j := u) (by omega) (by first | omega | (simp only [Sp.rvl_len, List.length_set]; omega)))) <|
      .p (does_indexSlice (t := 24) (x := .tmp 16) (y := .tmp 17) (k := 0) (off := 0) (n := ps.length) (c := 0) (z := 2) (kd := .i64) (j := ((v : Nat) : Int)) (by kernel_rfl) (by kernel_rfl) (by kernel_rfl) (by kernel_rfl) (by kernel_rfl) (by omega) (by omega)) <|
      .p (does_store (t := 27) (x := .tmp 27) (y := .tmp 25) (k := 0) (off := (0 + (((v : Nat) : Int)).toNat * 2)) (b := ⟨(((Sp.rvl ps u).set u ((((Sp.rvl ps u).getD v (0, 0)).1), (((Sp.rvl ps u).getD v (0, 0)).2))).flatMap ptc), 27, true, 2⟩) (v := .agg #[.int .i64 (((Sp.rvl ps u).getD u (0, 0)).1), .int .i64 (((Sp.rvl ps u).getD u (0, 0)).2)]) (cells := ((((Sp.rvl ps u).set u ((((Sp.rvl ps u).getD v (0, 0)).1), (((Sp.rvl ps u).getD v (0, 0)).2))).set v ((((Sp.rvl ps u).getD u (0, 0)).1), (((Sp.rvl ps u).getD u (0, 0)).2))).flatMap ptc)) (by kernel_rfl) (by kernel_rfl) (by kernel_rfl) (by kernel_rfl) (by kernel_rfl) (by kernel_rfl) (by kernel_rfl) (Nat.ble_eq_true_of_le (by show _ + 2 ≤ (((Sp.rvl ps u).set u ((((Sp.rvl ps u).getD v (0, 0)).1), (((Sp.rvl ps u).getD v (0, 0)).2))).flatMap ptc).length; rw [pairs_length]; first | omega | (simp only [Sp.rvl_len, List.length_set]; omega))) (set_pair (j := v) (by omega) (by first | omega | (simp only [Sp.rvl_len, List.length_set]; omega)))) <| .nil _ _) ?_
    refine block_normal ?_
    refine then_normal ?_
    refine aw_w [(0, .slice (some ⟨0, 0, none⟩) ps.length 0), (2, .int .i64 ((u : Nat) : Int)), (3, .int .i64 ((v : Nat) : Int)), (7, .int .i64 ((u : Nat) : Int)), (8, .int .i64 ((v : Nat) : Int)), (9, .bool (decide (((u : Nat) : Int) < ((v : Nat) : Int)))), (14, .slice (some ⟨0, 0, none⟩) ps.length 0), (15, .int .i64 ((u : Nat) : Int)), (16, .slice (some ⟨0, 0, none⟩) ps.length 0), (17, .int .i64 ((v : Nat) : Int)), (18, .slice (some ⟨0, 0, none⟩) ps.length 0), (19, .int .i64 ((v : Nat) : Int)), (20, .pointer (some ⟨0, 0 + (((v : Nat) : Int)).toNat * 2, none⟩)), (21, .agg #[.int .i64 (((Sp.rvl ps u).getD v (0, 0)).1), .int .i64 (((Sp.rvl ps u).getD v (0, 0)).2)]), (22, .slice (some ⟨0, 0, none⟩) ps.length 0), (23, .int .i64 ((u : Nat) : Int)), (24, .pointer (some ⟨0, 0 + (((u : Nat) : Int)).toNat * 2, none⟩)), (25, .agg #[.int .i64 (((Sp.rvl ps u).getD u (0, 0)).1), .int .i64 (((Sp.rvl ps u).getD u (0, 0)).2)]), (26, .pointer (some ⟨0, 0 + (((u : Nat) : Int)).toNat * 2, none⟩)), (27, .pointer (some ⟨0, 0 + (((v : Nat) : Int)).toNat * 2, none⟩))] [(0, ⟨((Sp.rvl ps (u + 1)).flatMap ptc), 27, true, 2⟩)] ?_ (by kernel_rfl) (by rw [← Sp.rvl_next hv hlt]; kernel_rfl) (hc := (by simp [closedB, valsB, valB, List.all_eq_true, List.mem_flatMap, List.mem_range, List.mem_map, i64v, ptc, flat1]; try (intros; simp [valsB, valB, flat1]); try decide))
    refine aw_p1 (
      .a 1 1 <| .p (does_i (((u : Nat) : Int) + 1) (wrap_i64 (by omega) (by omega)) .i64) <| .a 1 1 <| .p (does_i ((v - 1 : Nat) : Int) ((show (IntKind.wrap .i64 (((v : Nat) : Int) - 1)) = ((v - 1 : Nat) : Int) from ((wrap_i64 (by omega) (by omega)).trans (by omega)))) .i64) <| .a 2 1 <| .nil _ _) ?_
    refine then_normal ?_
    refine al_w [(0, .slice (some ⟨0, 0, none⟩) ps.length 0), (2, .int .i64 (((u + 1) : Nat) : Int)), (3, .int .i64 (((v - 1) : Nat) : Int))] [(0, ⟨((Sp.rvl ps (u + 1)).flatMap ptc), 27, true, 2⟩)] ?_ (hc := (by simp [closedB, valsB, valB, List.all_eq_true, List.mem_flatMap, List.mem_range, List.mem_map, i64v, ptc, flat1]; try (intros; simp [valsB, valB, flat1]); try decide))
    exact ih1 ((u + 1), (v - 1)) (show ((u + 1) + (v - 1) + 1 = ps.length) from by omega) (show (v - 1) - (u + 1) < v - u from by omega)
  · have h1p : ¬ ((((u : Nat) : Int) < ((v : Nat) : Int))) := by first | (simpa using h1) | (have h1q := h1; simp at h1q; omega) | (have h1q := bx2 h1; simp at h1q; omega)
    have hge : ¬ u < v := by omega
    refine aw_w [(0, .slice (some ⟨0, 0, none⟩) ps.length 0), (2, .int .i64 ((u : Nat) : Int)), (3, .int .i64 ((v : Nat) : Int)), (7, .int .i64 ((u : Nat) : Int)), (8, .int .i64 ((v : Nat) : Int)), (9, .bool (decide (((u : Nat) : Int) < ((v : Nat) : Int))))] [(0, ⟨(ps.reverse.flatMap ptc), 27, true, 2⟩)] ?_ (by kernel_rfl) (by rw [← Sp.rvl_end hv hge]; kernel_rfl) (hc := (by simp [closedB, valsB, valB, List.all_eq_true, List.mem_flatMap, List.mem_range, List.mem_map, i64v, ptc, flat1]; try (intros; simp [valsB, valB, flat1]); try decide))
    refine aw_ex 0 ?_
    refine then_exit ?_
    refine then_exit ?_
    refine block_exit ?_
    exact en_normal [] (by kernel_rfl)
theorem minf_ok (ps : List (Int × Int)) (hn : 1 ≤ ps.length) (hz : ps.length ≤ 4096) :
    AC Try.prog 43 1 ([.slice (some ⟨0, 0, none⟩) ps.length 0, .func (.func 32) #[] #[]]) [(0, ⟨(ps.flatMap ptc), 27, true, 2⟩)] (.agg #[.int .i64 ((Sp.mnP ps (ps.length - 1)).1), .int .i64 ((Sp.mnP ps (ps.length - 1)).2)]) [(0, ⟨(ps.flatMap ptc), 27, true, 2⟩)] := by
  refine ac_in Try.func43 (fun w0 W pin => ?_)
  refine aw_p 3 (
    .a 1 1 <| .nil _ _) ?_
  refine aw_sq 6 7 ?_
  refine aw_p 13 (
    .a 2 2 <| .p (does_b false ((show (decide (((ps.length : Nat) : Int) < 1)) = false from decide_eq_false (by omega)))) <| .nil _ _) ?_
  refine aw_fl 27 ?_
  refine aw_sk ?_
  refine then_normal ?_
  refine aw_p 15 (
    .a 1 2 <| .p (does_indexSlice (t := 24) (x := .tmp 11) (y := .const (.int .i64 0)) (k := 0) (off := 0) (n := ps.length) (c := 0) (z := 2) (kd := .i64) (j := 0) (by kernel_rfl) (by kernel_rfl) (by kernel_rfl) (by kernel_rfl) (by kernel_rfl) (by omega) (by omega)) <|
    .p (does_load (t := 27) (x := .tmp 12) (k := 0) (off := 0) (b := ⟨(ps.flatMap ptc), 27, true, 2⟩) (v := .agg #[.int .i64 ((ps.getD 0 (0, 0)).1), .int .i64 ((ps.getD 0 (0, 0)).2)]) (by kernel_rfl) (by kernel_rfl) (by kernel_rfl) (ldV_pair (j := 0) (by kernel_rfl) (by kernel_rfl) (by omega) (by omega))) <|
    .a 2 2 <| .nil _ _) ?_
  refine aw_sq 30 31 ?_
  refine aw_p 61 (
    .a 1 3 <| .nil _ _) ?_
  refine aw_bl 0 123 ?_
  refine aw_lp 247 ?_
  refine al_w [(0, .slice (some ⟨0, 0, none⟩) ps.length 0), (1, .func (.func 32) #[] #[]), (4, .pointer (some ⟨1, 0, none⟩)), (5, .pointer (some ⟨2, 0, none⟩)), (6, .int .i64 ((0 + 1 : Nat) : Int))] [(0, ⟨(ps.flatMap ptc), 27, true, 2⟩), (1, ⟨[.int .i64 0, .int .i64 0], 27, true, 2⟩), (2, ⟨[.int .i64 ((ps.getD 0 (0, 0)).1), .int .i64 ((ps.getD 0 (0, 0)).2)], 27, true, 2⟩)] ?_ (hc := (by simp [closedB, valsB, valB, List.all_eq_true, List.mem_flatMap, List.mem_range, List.mem_map, i64v, ptc, flat1]; try (intros; simp [valsB, valB, flat1]); try decide))
  refine al_ind (fun i : Nat × Int × Int => (fun (i : Nat) (a : Int) (b : Int) => mkSt 1 [(0, .slice (some ⟨0, 0, none⟩) ps.length 0), (1, .func (.func 32) #[] #[]), (4, .pointer (some ⟨1, 0, none⟩)), (5, .pointer (some ⟨2, 0, none⟩)), (6, .int .i64 ((i + 1 : Nat) : Int))] [(0, ⟨(ps.flatMap ptc), 27, true, 2⟩), (1, ⟨[.int .i64 0, .int .i64 0], 27, true, 2⟩), (2, ⟨[.int .i64 a, .int .i64 b], 27, true, 2⟩)]) i.1 i.2.1 i.2.2) (fun i : Nat × Int × Int => (fun (i : Nat) (a : Int) (b : Int) => (i + 1 ≤ ps.length) ∧ (a = (Sp.mnP ps i).1) ∧ (b = (Sp.mnP ps i).2)) i.1 i.2.1 i.2.2) (fun i : Nat × Int × Int => (fun (i : Nat) (a : Int) (b : Int) => ps.length - i) i.1 i.2.1 i.2.2) (fun i hi1 ih1 => ?_) (0, ((ps.getD 0 (0, 0)).1), ((ps.getD 0 (0, 0)).2)) (show (0 + 1 ≤ ps.length) ∧ (((ps.getD 0 (0, 0)).1) = (Sp.mnP ps 0).1) ∧ (((ps.getD 0 (0, 0)).2) = (Sp.mnP ps 0).2) from ⟨by omega, by rfl, by rfl⟩)
  obtain ⟨i, a, b⟩ := i
  have hi1' : (i + 1 ≤ ps.length) ∧ (a = (Sp.mnP ps i).1) ∧ (b = (Sp.mnP ps i).2) := hi1
  obtain ⟨hi, ha, hb⟩ := hi1'
  show AL _ _ _ (mkSt 1 [(0, .slice (some ⟨0, 0, none⟩) ps.length 0), (1, .func (.func 32) #[] #[]), (4, .pointer (some ⟨1, 0, none⟩)), (5, .pointer (some ⟨2, 0, none⟩)), (6, .int .i64 ((i + 1 : Nat) : Int))] [(0, ⟨(ps.flatMap ptc), 27, true, 2⟩), (1, ⟨[.int .i64 0, .int .i64 0], 27, true, 2⟩), (2, ⟨[.int .i64 a, .int .i64 b], 27, true, 2⟩)]) _
  refine al_round ?_
  refine aw_sq 494 495 ?_
  refine aw_p 989 (
    .a 4 3 <| .nil _ _) ?_
  refine aw_cd 1978 1979 (decide (((i + 1 : Nat) : Int) < ((ps.length : Nat) : Int))) (fun h1 => ?_) (fun h1 => ?_)
  · have h1p : ((((i + 1 : Nat) : Int) < ((ps.length : Nat) : Int))) := by first | (simpa using h1) | (have h1q := h1; simp at h1q; omega) | (have h1q := bx1 h1; simp at h1q; omega)
    have hil : i + 1 < ps.length := by omega
    refine aw_sk ?_
    refine then_normal ?_
    refine aw_sq 990 991 ?_
    refine aw_bl 1 1981 ?_
    refine aw_d 3963 (
      .a 3 3 <| .p (does_indexSlice (t := 24) (x := .tmp 21) (y := .tmp 22) (k := 0) (off := 0) (n := ps.length) (c := 0) (z := 2) (kd := .i64) (j := ((i + 1 : Nat) : Int)) (by kernel_rfl) (by kernel_rfl) (by kernel_rfl) (by kernel_rfl) (by kernel_rfl) (by omega) (by omega)) <|
      .p (does_load (t := 27) (x := .tmp 23) (k := 0) (off := (0 + (((i + 1 : Nat) : Int)).toNat * 2)) (b := ⟨(ps.flatMap ptc), 27, true, 2⟩) (v := .agg #[.int .i64 ((ps.getD (i + 1) (0, 0)).1), .int .i64 ((ps.getD (i + 1) (0, 0)).2)]) (by kernel_rfl) (by kernel_rfl) (by kernel_rfl) (ldV_pair (j := (i + 1)) (by kernel_rfl) (by kernel_rfl) (by omega) (by omega))) <|
      .a 1 3 <| .p (does_c (pcmp_ok ((ps.getD (i + 1) (0, 0)).1) ((ps.getD (i + 1) (0, 0)).2) a b)) <| .a 1 3 <| .nil _ _) ?_
    refine aw_cd 7926 7927 (decide ((Sp.pcmp ((ps.getD (i + 1) (0, 0)).1) ((ps.getD (i + 1) (0, 0)).2) a b) < 0)) (fun h2 => ?_) (fun h2 => ?_)
    · have h2p : (((Sp.pcmp ((ps.getD (i + 1) (0, 0)).1) ((ps.getD (i + 1) (0, 0)).2) a b) < 0)) := by first | (simpa using h2) | (have h2q := h2; simp at h2q; omega) | (have h2q := bx1 h2; simp at h2q; omega)
      refine aw_p1 (
        .a 2 3 <| .p (does_indexSlice (t := 24) (x := .tmp 28) (y := .tmp 29) (k := 0) (off := 0) (n := ps.length) (c := 0) (z := 2) (kd := .i64) (j := ((i + 1 : Nat) : Int)) (by kernel_rfl) (by kernel_rfl) (by kernel_rfl) (by kernel_rfl) (by kernel_rfl) (by omega) (by omega)) <|
        .p (does_load (t := 27) (x := .tmp 30) (k := 0) (off := (0 + (((i + 1 : Nat) : Int)).toNat * 2)) (b := ⟨(ps.flatMap ptc), 27, true, 2⟩) (v := .agg #[.int .i64 ((ps.getD (i + 1) (0, 0)).1), .int .i64 ((ps.getD (i + 1) (0, 0)).2)]) (by kernel_rfl) (by kernel_rfl) (by kernel_rfl) (ldV_pair (j := (i + 1)) (by kernel_rfl) (by kernel_rfl) (by omega) (by omega))) <|
        .a 1 3 <| .nil _ _) ?_
      refine block_normal ?_
      refine then_normal ?_
      refine aw_p1 (
        .a 1 3 <| .p (does_i (((i + 1 : Nat) : Int) + 1) (wrap_i64 (by omega) (by omega)) .i64) <| .a 1 3 <| .nil _ _) ?_
      refine then_normal ?_
      refine al_w [(0, .slice (some ⟨0, 0, none⟩) ps.length 0), (1, .func (.func 32) #[] #[]), (4, .pointer (some ⟨1, 0, none⟩)), (5, .pointer (some ⟨2, 0, none⟩)), (6, .int .i64 (((i + 1) + 1 : Nat) : Int))] [(0, ⟨(ps.flatMap ptc), 27, true, 2⟩), (1, ⟨[.int .i64 0, .int .i64 0], 27, true, 2⟩), (2, ⟨[.int .i64 ((ps.getD (i + 1) (0, 0)).1), .int .i64 ((ps.getD (i + 1) (0, 0)).2)], 27, true, 2⟩)] ?_ (hc := (by simp [closedB, valsB, valB, List.all_eq_true, List.mem_flatMap, List.mem_range, List.mem_map, i64v, ptc, flat1]; try (intros; simp [valsB, valB, flat1]); try decide))
      exact ih1 ((i + 1), ((ps.getD (i + 1) (0, 0)).1), ((ps.getD (i + 1) (0, 0)).2)) (show ((i + 1) + 1 ≤ ps.length) ∧ (((ps.getD (i + 1) (0, 0)).1) = (Sp.mnP ps (i + 1)).1) ∧ (((ps.getD (i + 1) (0, 0)).2) = (Sp.mnP ps (i + 1)).2) from ⟨by omega, by (first | exact congrArg (·.1) (Sp.mnP_y ha hb (by assumption)) | exact congrArg (·.1) (Sp.mnP_n ha hb (by assumption))), by (first | exact congrArg (·.2) (Sp.mnP_y ha hb (by assumption)) | exact congrArg (·.2) (Sp.mnP_n ha hb (by assumption)))⟩) (show ps.length - (i + 1) < ps.length - i from by omega)
    · have h2p : ¬ (((Sp.pcmp ((ps.getD (i + 1) (0, 0)).1) ((ps.getD (i + 1) (0, 0)).2) a b) < 0)) := by first | (simpa using h2) | (have h2q := h2; simp at h2q; omega) | (have h2q := bx2 h2; simp at h2q; omega)
      refine aw_sk ?_
      refine block_normal ?_
      refine then_normal ?_
      refine aw_p1 (
        .a 1 3 <| .p (does_i (((i + 1 : Nat) : Int) + 1) (wrap_i64 (by omega) (by omega)) .i64) <| .a 1 3 <| .nil _ _) ?_
      refine then_normal ?_
      refine al_w [(0, .slice (some ⟨0, 0, none⟩) ps.length 0), (1, .func (.func 32) #[] #[]), (4, .pointer (some ⟨1, 0, none⟩)), (5, .pointer (some ⟨2, 0, none⟩)), (6, .int .i64 (((i + 1) + 1 : Nat) : Int))] [(0, ⟨(ps.flatMap ptc), 27, true, 2⟩), (1, ⟨[.int .i64 0, .int .i64 0], 27, true, 2⟩), (2, ⟨[.int .i64 a, .int .i64 b], 27, true, 2⟩)] ?_ (hc := (by simp [closedB, valsB, valB, List.all_eq_true, List.mem_flatMap, List.mem_range, List.mem_map, i64v, ptc, flat1]; try (intros; simp [valsB, valB, flat1]); try decide))
      exact ih1 ((i + 1), a, b) (show ((i + 1) + 1 ≤ ps.length) ∧ (a = (Sp.mnP ps (i + 1)).1) ∧ (b = (Sp.mnP ps (i + 1)).2) from ⟨by omega, by (first | exact congrArg (·.1) (Sp.mnP_y ha hb (by assumption)) | exact congrArg (·.1) (Sp.mnP_n ha hb (by assumption))), by (first | exact congrArg (·.2) (Sp.mnP_y ha hb (by assumption)) | exact congrArg (·.2) (Sp.mnP_n ha hb (by assumption)))⟩) (show ps.length - (i + 1) < ps.length - i from by omega)
  · have h1p : ¬ ((((i + 1 : Nat) : Int) < ((ps.length : Nat) : Int))) := by first | (simpa using h1) | (have h1q := h1; simp at h1q; omega) | (have h1q := bx2 h1; simp at h1q; omega)
    have hge : i = ps.length - 1 := by omega
    refine aw_ex 0 ?_
    refine then_exit ?_
    refine then_exit ?_
    refine block_exit ?_
    refine then_normal ?_
    refine aw_p 63 (
      .a 2 3 <| .nil _ _) ?_
    refine aw_rt ?_
    exact en_ret [.agg #[.int .i64 a, .int .i64 b]] (show (.agg #[.int .i64 a, .int .i64 b] : Value) = (.agg #[.int .i64 ((Sp.mnP ps (ps.length - 1)).1), .int .i64 ((Sp.mnP ps (ps.length - 1)).2)]) from (congrArg (fun z : List Value => Value.agg z.toArray) (lcons (congrArg (Value.int .i64) (show a = ((Sp.mnP ps (ps.length - 1)).1) from by (first | exact (by rw [ha, hge]) | exact (by rw [hb, hge])))) (lcons (congrArg (Value.int .i64) (show b = ((Sp.mnP ps (ps.length - 1)).2) from by (first | exact (by rw [ha, hge]) | exact (by rw [hb, hge])))) rfl))))
theorem index_ok (ps : List (Int × Int)) (hn : 1 ≤ ps.length) (hz : ps.length ≤ 4096) (x y : Int) :
    AC Try.prog 42 1 ([.slice (some ⟨0, 0, none⟩) ps.length 0, .agg #[.int .i64 x, .int .i64 y]]) [(0, ⟨(ps.flatMap ptc), 27, true, 2⟩)] (.int .i64 (Sp.ixF (Sp.eqTo (x, y)) ps 0)) [(0, ⟨(ps.flatMap ptc), 27, true, 2⟩)] := by
  refine ac_in Try.func42 (fun w0 W pin => ?_)
  refine aw_p 3 (
    .a 2 1 <| .nil _ _) ?_
  refine aw_sq 6 7 ?_
  refine aw_p 13 (
    .a 3 2 <| .nil _ _) ?_
  refine aw_bl 0 27 ?_
  refine aw_lp 55 ?_
  refine al_w [(0, .slice (some ⟨0, 0, none⟩) ps.length 0), (3, .pointer (some ⟨1, 0, none⟩)), (7, .int .i64 ((ps.length : Nat) : Int)), (8, .int .i64 ((0 : Nat) : Int))] [(0, ⟨(ps.flatMap ptc), 27, true, 2⟩), (1, ⟨[.int .i64 x, .int .i64 y], 27, true, 2⟩)] ?_ (hc := (by simp [closedB, valsB, valB, List.all_eq_true, List.mem_flatMap, List.mem_range, List.mem_map, i64v, ptc, flat1]; try (intros; simp [valsB, valB, flat1]); try decide))
  refine al_ind (fun i : Nat => (fun (i : Nat) => mkSt 1 [(0, .slice (some ⟨0, 0, none⟩) ps.length 0), (3, .pointer (some ⟨1, 0, none⟩)), (7, .int .i64 ((ps.length : Nat) : Int)), (8, .int .i64 ((i : Nat) : Int))] [(0, ⟨(ps.flatMap ptc), 27, true, 2⟩), (1, ⟨[.int .i64 x, .int .i64 y], 27, true, 2⟩)]) i) (fun i : Nat => (fun (i : Nat) => (i ≤ ps.length) ∧ (Sp.ixF (Sp.eqTo (x, y)) ps i = Sp.ixF (Sp.eqTo (x, y)) ps 0)) i) (fun i : Nat => (fun (i : Nat) => ps.length - i) i) (fun i hi1 ih1 => ?_) 0 (show (0 ≤ ps.length) ∧ (Sp.ixF (Sp.eqTo (x, y)) ps 0 = Sp.ixF (Sp.eqTo (x, y)) ps 0) from ⟨by omega, by rfl⟩)
  obtain ⟨i, hv1⟩ : ∃ z, z = i := ⟨i, rfl⟩; subst hv1
  have hi1' : (i ≤ ps.length) ∧ (Sp.ixF (Sp.eqTo (x, y)) ps i = Sp.ixF (Sp.eqTo (x, y)) ps 0) := hi1
  obtain ⟨hi, hh⟩ := hi1'
  show AL _ _ _ (mkSt 1 [(0, .slice (some ⟨0, 0, none⟩) ps.length 0), (3, .pointer (some ⟨1, 0, none⟩)), (7, .int .i64 ((ps.length : Nat) : Int)), (8, .int .i64 ((i : Nat) : Int))] [(0, ⟨(ps.flatMap ptc), 27, true, 2⟩), (1, ⟨[.int .i64 x, .int .i64 y], 27, true, 2⟩)]) _
  refine al_round ?_
  refine aw_p 111 (
    .a 1 2 <| .nil _ _) ?_
  refine aw_sq 222 223 ?_
  refine aw_cd 444 445 (decide (((i : Nat) : Int) < ((ps.length : Nat) : Int))) (fun h1 => ?_) (fun h1 => ?_)
  · have h1p : ((((i : Nat) : Int) < ((ps.length : Nat) : Int))) := by first | (simpa using h1) | (have h1q := h1; simp at h1q; omega) | (have h1q := bx1 h1; simp at h1q; omega)
    have hil : i < ps.length := by omega
    refine aw_sk ?_
    refine then_normal ?_
    refine aw_sq 446 447 ?_
    refine aw_bl 1 893 ?_
    refine aw_p 1787 (
      .a 2 2 <| .nil _ _) ?_
    refine aw_d 3575 (
      .a 3 2 <| .p (does_indexSlice (t := 24) (x := .tmp 12) (y := .tmp 13) (k := 0) (off := 0) (n := ps.length) (c := 0) (z := 2) (kd := .i64) (j := ((i : Nat) : Int)) (by kernel_rfl) (by kernel_rfl) (by kernel_rfl) (by kernel_rfl) (by kernel_rfl) (by omega) (by omega)) <|
      .p (does_load (t := 27) (x := .tmp 14) (k := 0) (off := (0 + (((i : Nat) : Int)).toNat * 2)) (b := ⟨(ps.flatMap ptc), 27, true, 2⟩) (v := .agg #[.int .i64 ((ps.getD i (0, 0)).1), .int .i64 ((ps.getD i (0, 0)).2)]) (by kernel_rfl) (by kernel_rfl) (by kernel_rfl) (ldV_pair (j := i) (by kernel_rfl) (by kernel_rfl) (by omega) (by omega))) <|
      .p (does_e ((x == ((ps.getD i (0, 0)).1)) && ((y == ((ps.getD i (0, 0)).2)) && true)) (rfl)) <| .nil _ _) ?_
    refine aw_cd 7150 7151 ((x == ((ps.getD i (0, 0)).1)) && ((y == ((ps.getD i (0, 0)).2)) && true)) (fun h2 => ?_) (fun h2 => ?_)
    · have h2p : ((x = ((ps.getD i (0, 0)).1) ∧ y = ((ps.getD i (0, 0)).2))) := by first | (simpa using h2) | (have h2q := h2; simp at h2q; omega) | (have h2q := bx1 h2; simp at h2q; omega)
      refine aw_p 14301 (
        .a 2 2 <| .nil _ _) ?_
      refine aw_rt ?_
      refine block_ret ?_
      refine then_ret ?_
      refine then_ret ?_
      refine block_ret ?_
      refine then_ret ?_
      exact en_ret [.int .i64 ((i : Nat) : Int)] (show (.int .i64 ((i : Nat) : Int) : Value) = (.int .i64 (Sp.ixF (Sp.eqTo (x, y)) ps 0)) from (congrArg (Value.int .i64) (show ((i : Nat) : Int) = (Sp.ixF (Sp.eqTo (x, y)) ps 0) from by (first | exact (by rw [← hh, Sp.ixF_yes hil (by assumption)]) | exact (by rw [← hh, Sp.ixF_end hge])))))
    · have h2p : ¬ ((x = ((ps.getD i (0, 0)).1) ∧ y = ((ps.getD i (0, 0)).2))) := by first | (simpa using h2) | (have h2q := h2; simp at h2q; omega) | (have h2q := bx2 h2; simp at h2q; omega)
      refine aw_sk ?_
      refine block_normal ?_
      refine then_normal ?_
      refine aw_p1 (
        .p (does_i (((i : Nat) : Int) + 1) (wrap_i64 (by omega) (by omega)) .i64) <| .a 1 2 <| .nil _ _) ?_
      refine then_normal ?_
      refine al_w [(0, .slice (some ⟨0, 0, none⟩) ps.length 0), (3, .pointer (some ⟨1, 0, none⟩)), (7, .int .i64 ((ps.length : Nat) : Int)), (8, .int .i64 (((i + 1) : Nat) : Int))] [(0, ⟨(ps.flatMap ptc), 27, true, 2⟩), (1, ⟨[.int .i64 x, .int .i64 y], 27, true, 2⟩)] ?_ (hc := (by simp [closedB, valsB, valB, List.all_eq_true, List.mem_flatMap, List.mem_range, List.mem_map, i64v, ptc, flat1]; try (intros; simp [valsB, valB, flat1]); try decide))
      exact ih1 (i + 1) (show ((i + 1) ≤ ps.length) ∧ (Sp.ixF (Sp.eqTo (x, y)) ps (i + 1) = Sp.ixF (Sp.eqTo (x, y)) ps 0) from ⟨by omega, by (rw [← hh]; exact Sp.ixF_no hil (by assumption))⟩) (show ps.length - (i + 1) < ps.length - i from by omega)
  · have h1p : ¬ ((((i : Nat) : Int) < ((ps.length : Nat) : Int))) := by first | (simpa using h1) | (have h1q := h1; simp at h1q; omega) | (have h1q := bx2 h1; simp at h1q; omega)
    have hge : ¬ i < ps.length := by omega
    refine aw_ex 0 ?_
    refine then_exit ?_
    refine then_exit ?_
    refine block_exit ?_
    refine then_normal ?_
    refine aw_p 15 (
      .a 1 2 <| .nil _ _) ?_
    refine aw_rt ?_
    exact en_ret [.int .i64 (-1)] (show (.int .i64 (-1) : Value) = (.int .i64 (Sp.ixF (Sp.eqTo (x, y)) ps 0)) from (congrArg (Value.int .i64) (show (-1) = (Sp.ixF (Sp.eqTo (x, y)) ps 0) from by (first | exact (by rw [← hh, Sp.ixF_yes hil (by assumption)]) | exact (by rw [← hh, Sp.ixF_end hge])))))
theorem grow0_ok (n : Nat) (hn : 1 ≤ n) (hz : n ≤ 4096) :
    AC Try.prog 63 0 ([.slice none 0 0, .int .i64 ((n : Nat) : Int)]) [] (.slice (some ⟨0, 0, none⟩) 0 0) [(0, ⟨[], 27, true, 2⟩)] := by
  refine ac_in Try.func63 (fun w0 W pin => ?_)
  refine aw_p 3 (
    .a 1 0 <| .nil _ _) ?_
  refine aw_sq 6 7 ?_
  refine aw_p 13 (
    .a 1 0 <| .p (does_b false ((show (decide (((n : Nat) : Int) < 0)) = false from decide_eq_false (by omega)))) <| .nil _ _) ?_
  refine aw_fl 27 ?_
  refine aw_sk ?_
  refine then_normal ?_
  refine aw_sq 14 15 ?_
  refine aw_p 29 (
    .a 2 0 <| .p (does_pure (v := .int .i64 0) (by kernel_rfl) (fun w => by kernel_rfl) (by kernel_rfl)) <| .a 3 0 <| .p (does_i ((n : Nat) : Int) ((show (IntKind.wrap .i64 (((n : Nat) : Int) - 0)) = ((n : Nat) : Int) from ((wrap_i64 (by omega) (by omega)).trans (by omega)))) .i64) <| .a 1 0 <| .nil _ _) ?_
  refine aw_p 59 (
    .a 1 0 <| .p (does_b true ((show (decide (((n : Nat) : Int) > 0)) = true from decide_eq_true (by omega)))) <| .nil _ _) ?_
  refine aw_tr 118 ?_
  refine aw_p1 (
    .a 2 0 <| .p (does_pure (v := .int .i64 0) (by kernel_rfl) (fun w => by kernel_rfl) (by kernel_rfl)) <| .p (does_pure (v := .slice none 0 0) (by kernel_rfl) (fun w => by kernel_rfl) (by kernel_rfl)) <| .a 1 0 <|
    .p (does_room 0 27 2 16 n ((n : Nat) : Int) .i64 (by kernel_rfl) (by kernel_rfl) (by omega) (by omega) (by omega) (by omega)) <| .a 2 1 <|
    .p (does_val (v' := .slice (some ⟨0, 0, none⟩) 0 0) (does_slice (t := 24) (x := .tmp 22) (lo := none) (hi := some (.tmp 24)) (k := 0) (off := 0) (n := n) (c := 0) (z := 2) (l := 0) (h := 0) (m := 0) (b := ⟨[], 27, true, 2⟩) (by kernel_rfl) (by kernel_rfl) (by kernel_rfl) (by kernel_rfl) (by kernel_rfl) (by kernel_rfl) (by kernel_rfl) (by kernel_rfl) (by omega) (by omega) (by omega) (by omega)) (by kernel_rfl)) <|
    .a 1 1 <| .nil _ _) ?_
  refine then_normal ?_
  refine aw_p 31 (
    .a 2 1 <| .nil _ _) ?_
  refine aw_rt ?_
  exact en_ret [.slice (some ⟨0, 0, none⟩) 0 0] (by kernel_rfl)
theorem minf_n (ps : List (Int × Int)) (N : Nat) (hN : ps.length = N) (hn : 1 ≤ N) (hz : N ≤ 4096) : AC Try.prog 43 1 [.slice (some ⟨0, 0, none⟩) N 0, .func (.func 32) #[] #[]] [(0, ⟨(ps.flatMap ptc), 27, true, 2⟩)] (.agg #[.int .i64 (Sp.mnP ps (N - 1)).1, .int .i64 (Sp.mnP ps (N - 1)).2]) [(0, ⟨(ps.flatMap ptc), 27, true, 2⟩)] := by
  subst hN
  exact minf_ok ps hn hz
theorem index_n (ps : List (Int × Int)) (N : Nat) (hN : ps.length = N) (hn : 1 ≤ N) (hz : N ≤ 4096) (x y : Int) : AC Try.prog 42 1 [.slice (some ⟨0, 0, none⟩) N 0, .agg #[.int .i64 x, .int .i64 y]] [(0, ⟨(ps.flatMap ptc), 27, true, 2⟩)] (.int .i64 (Sp.ixF (Sp.eqTo (x, y)) ps 0)) [(0, ⟨(ps.flatMap ptc), 27, true, 2⟩)] := by
  subst hN
  exact index_ok ps hn hz x y
theorem grow_ok (n : Nat) (n' : Int) (hn' : n' = ((n : Nat) : Int)) (hn : 1 ≤ n) (hz : n ≤ 4096) : AC Try.prog 63 0 [.slice none 0 0, .int .i64 n'] [] (.slice (some ⟨0, 0, none⟩) 0 0) [(0, ⟨[], 27, true, 2⟩)] := by
  subst hn'
  exact grow0_ok n hn hz
end Go.Proofs.Ytomnkdlfmjdckaa.Am

namespace Go.Proofs.Ytomnkdlfmjdckaa.Am
open Go Go.Proofs
set_option maxRecDepth 100000
set_option maxHeartbeats 4000000
set_option linter.unusedVariables false
set_option linter.unusedSimpArgs false
theorem concat_ok (ps : List (Int × Int)) (m : Nat) (hm : m < ps.length) (hz : ps.length ≤ 4096) :
    AC Try.prog 44 2 ([.slice (some ⟨1, 0, none⟩) 2 0]) [(0, ⟨(ps.flatMap ptc), 27, true, 2⟩), (1, ⟨[.slice (some ⟨0, (0 + m * 2), none⟩) (ps.length - m) 0, .slice (some ⟨0, 0, none⟩) m 0], 24, true, 1⟩)] (.slice (some ⟨2, 0, none⟩) ps.length 0) [(0, ⟨(ps.flatMap ptc), 27, true, 2⟩), (1, ⟨[.slice (some ⟨0, (0 + m * 2), none⟩) (ps.length - m) 0, .slice (some ⟨0, 0, none⟩) m 0], 24, true, 1⟩), (2, ⟨((Sp.rotL ps m).flatMap ptc), 27, true, 2⟩)] := by
  refine ac_in Try.func44 (fun w0 W pin => ?_)
  refine aw_p 3 (
    .a 1 3 <| .nil _ _) ?_
  refine aw_p 7 (
    .a 1 3 <| .nil _ _) ?_
  refine aw_sq 14 15 ?_
  refine aw_p 29 (
    .a 3 3 <| .nil _ _) ?_
  refine aw_bl 0 59 ?_
  refine aw_lp 119 ?_
  refine al_round ?_
  refine aw_p 239 (
    .a 1 3 <| .nil _ _) ?_
  refine aw_sq 478 479 ?_
  refine aw_tr 956 ?_
  refine aw_sk ?_
  refine then_normal ?_
  refine aw_sq 958 959 ?_
  refine aw_bl 1 1917 ?_
  refine aw_p 3835 (
    .a 3 3 <| .nil _ _) ?_
  refine aw_p 7671 (
    .a 3 3 <| .p (does_i (0 + (((ps.length - m) : Nat) : Int)) (wrap_i64 (by omega) (by omega)) .i64) <| .a 1 3 <| .nil _ _) ?_
  refine aw_p 15343 (
    .a 1 3 <| .p (does_b false ((show (decide ((0 + (((ps.length - m) : Nat) : Int)) < 0)) = false from decide_eq_false (by omega)))) <| .nil _ _) ?_
  refine aw_fl 30687 ?_
  refine aw_sk ?_
  refine block_normal ?_
  refine then_normal ?_
  refine aw_p1 (
    .a 2 3 <| .nil _ _) ?_
  refine then_normal ?_
  refine al_round ?_
  refine aw_p 239 (
    .a 1 3 <| .nil _ _) ?_
  refine aw_sq 478 479 ?_
  refine aw_tr 956 ?_
  refine aw_sk ?_
  refine then_normal ?_
  refine aw_sq 958 959 ?_
  refine aw_bl 1 1917 ?_
  refine aw_p 3835 (
    .a 3 3 <| .nil _ _) ?_
  refine aw_p 7671 (
    .a 3 3 <| .p (does_i ((0 + (((ps.length - m) : Nat) : Int)) + ((m : Nat) : Int)) (wrap_i64 (by omega) (by omega)) .i64) <| .a 1 3 <| .nil _ _) ?_
  refine aw_p 15343 (
    .a 1 3 <| .p (does_b false ((show (decide (((0 + (((ps.length - m) : Nat) : Int)) + ((m : Nat) : Int)) < 0)) = false from decide_eq_false (by omega)))) <| .nil _ _) ?_
  refine aw_fl 30687 ?_
  refine aw_sk ?_
  refine block_normal ?_
  refine then_normal ?_
  refine aw_p1 (
    .a 2 3 <| .nil _ _) ?_
  refine then_normal ?_
  refine al_round ?_
  refine aw_p 239 (
    .a 1 3 <| .nil _ _) ?_
  refine aw_sq 478 479 ?_
  refine aw_fl 957 ?_
  refine aw_ex 0 ?_
  refine then_exit ?_
  refine then_exit ?_
  refine block_exit ?_
  refine then_normal ?_
  refine aw_p 31 (
    .a 1 3 <|
    .p (does_callB (x := .func 63) (ars := #[.const (.slice none 0 0), .tmp 23]) (ats := #[24, 3]) (g := 63) (vs := [.slice none 0 0, .int .i64 ((0 + (((ps.length - m) : Nat) : Int)) + ((m : Nat) : Int))]) (m := 0) (r := 1) (firsts := #[]) (caps := #[]) (args0 := [.slice none 0 0, .int .i64 ((0 + (((ps.length - m) : Nat) : Int)) + ((m : Nat) : Int))]) (pre0 := []) (post0 := [(0, ⟨[], 27, true, 2⟩)]) (pre := []) (post := [(3, ⟨[], 27, true, 2⟩)]) (v0 := .slice (some ⟨0, 0, none⟩) 0 0) (v := .slice (some ⟨3, 0, none⟩) 0 0) [3] (by kernel_rfl) (by kernel_rfl) (by kernel_rfl) (by kernel_rfl) (grow_ok ps.length ((0 + (((ps.length - m) : Nat) : Int)) + ((m : Nat) : Int)) (by omega) (by omega) (by omega)) (.flats (by kernel_rfl)) trivial (by kernel_rfl) (by kernel_rfl) (by kernel_rfl) ⟨rfl, ⟨rfl, rfl, rfl, (.flats (by kernel_rfl))⟩, trivial⟩ (.slice _ _ _ _ _ (by decide))) <|
    .a 1 4 <| .nil _ _) ?_
  refine aw_sq 62 63 ?_
  refine aw_p 125 (
    .a 3 4 <| .nil _ _) ?_
  refine aw_bl 2 251 ?_
  refine aw_lp 503 ?_
  refine al_round ?_
  refine aw_p 1007 (
    .a 1 4 <| .nil _ _) ?_
  refine aw_sq 2014 2015 ?_
  refine aw_tr 4028 ?_
  refine aw_sk ?_
  refine then_normal ?_
  refine aw_sq 4030 4031 ?_
  refine aw_bl 3 8061 ?_
  refine aw_p 16123 (
    .a 3 4 <| .nil _ _) ?_
  refine aw_p1 (
    .a 2 4 <|
    .p (does_apg (ps.length - m) 4 27 2 16 3 0 0 (0 + m * 2) (ps.length - m) ⟨[], 27, true, 2⟩ ⟨(ps.flatMap ptc), 27, true, 2⟩ ((ps.drop m).flatMap ptc) (by kernel_rfl) (by kernel_rfl) (by kernel_rfl) (by kernel_rfl) (by kernel_rfl) (plain_pairs _) (by rw [Nat.zero_mul]; exact Nat.zero_le _) (by show _ ≤ (ps.flatMap ptc).length; rw [pairs_length]; omega) (.inl (by omega)) (by omega) (by omega) (by show List.take _ [] ++ ((ps.flatMap ptc).drop _).take _ = _; rw [cut_pairs (j := m) (k := ps.length - m) (by omega) (by omega), List.take_nil, List.nil_append, List.take_of_length_le (by simp)]) (by omega)) <|
    .a 1 5 <| .nil _ _) ?_
  refine block_normal ?_
  refine then_normal ?_
  refine aw_p1 (
    .a 2 5 <| .nil _ _) ?_
  refine then_normal ?_
  refine al_round ?_
  refine aw_p 1007 (
    .a 1 5 <| .nil _ _) ?_
  refine aw_sq 2014 2015 ?_
  refine aw_tr 4028 ?_
  refine aw_sk ?_
  refine then_normal ?_
  refine aw_sq 4030 4031 ?_
  refine aw_bl 3 8061 ?_
  refine aw_p 16123 (
    .a 3 5 <| .nil _ _) ?_
  refine aw_p1 (
    .a 2 5 <|
    .p (does_apg ps.length 2 27 2 16 4 (ps.length - m) 0 0 m ⟨((ps.drop m).flatMap ptc), 27, true, 2⟩ ⟨(ps.flatMap ptc), 27, true, 2⟩ ((Sp.rotL ps m).flatMap ptc) (by kernel_rfl) (by kernel_rfl) (by kernel_rfl) (by kernel_rfl) (by kernel_rfl) (plain_pairs _) (by show _ ≤ ((ps.drop m).flatMap ptc).length; rw [pairs_length, List.length_drop]; omega) (by show _ ≤ (ps.flatMap ptc).length; rw [pairs_length]; omega) (.inr ⟨by omega, by show ((ps.drop m).flatMap ptc).length = _; rw [pairs_length, List.length_drop]; omega⟩) (by omega) (by omega) (by show ((ps.drop m).flatMap ptc).take _ ++ ((ps.flatMap ptc).drop _).take _ = _; rw [cut_pairs (j := 0) (k := m) (by omega) (by omega), List.drop_zero, List.take_of_length_le (by rw [pairs_length, List.length_drop]; omega), ← List.flatMap_append]; rfl) (by omega)) <|
    .a 1 5 <| .nil _ _) ?_
  refine block_normal ?_
  refine then_normal ?_
  refine aw_p1 (
    .a 2 5 <| .nil _ _) ?_
  refine then_normal ?_
  refine al_round ?_
  refine aw_p 1007 (
    .a 1 5 <| .nil _ _) ?_
  refine aw_sq 2014 2015 ?_
  refine aw_fl 4029 ?_
  refine aw_ex 2 ?_
  refine then_exit ?_
  refine then_exit ?_
  refine block_exit ?_
  refine then_normal ?_
  refine aw_p 127 (
    .a 2 5 <| .nil _ _) ?_
  refine aw_rt ?_
  exact en_ret [.slice (some ⟨2, 0, none⟩) ps.length 0] (by kernel_rfl)
theorem equal_ok (ps : List (Int × Int)) (hz : ps.length ≤ 4096) :
    AC Try.prog 13 2 ([.slice (some ⟨0, 0, none⟩) ps.length 0, .slice (some ⟨1, 0, none⟩) ps.length 0]) [(0, ⟨(ps.flatMap ptc), 27, true, 2⟩), (1, ⟨(ps.flatMap ptc), 27, true, 2⟩)] (.bool true) [(0, ⟨(ps.flatMap ptc), 27, true, 2⟩), (1, ⟨(ps.flatMap ptc), 27, true, 2⟩)] := by
  refine ac_in Try.func13 (fun w0 W pin => ?_)
  refine aw_p 3 (
    .a 1 2 <| .nil _ _) ?_
  refine aw_sq 6 7 ?_
  refine aw_p 13 (
    .a 4 2 <| .p (does_b false ((show (((ps.length : Nat) : Int) != ((ps.length : Nat) : Int)) = false from by simp))) <| .nil _ _) ?_
  refine aw_fl 27 ?_
  refine aw_sk ?_
  refine then_normal ?_
  refine aw_sq 14 15 ?_
  refine aw_p 29 (
    .a 3 2 <| .nil _ _) ?_
  refine aw_bl 0 59 ?_
  refine aw_lp 119 ?_
  refine al_w [(0, .slice (some ⟨0, 0, none⟩) ps.length 0), (1, .slice (some ⟨1, 0, none⟩) ps.length 0), (12, .int .i64 ((ps.length : Nat) : Int)), (13, .int .i64 ((0 : Nat) : Int))] [(0, ⟨(ps.flatMap ptc), 27, true, 2⟩), (1, ⟨(ps.flatMap ptc), 27, true, 2⟩)] ?_ (hc := (by simp [closedB, valsB, valB, List.all_eq_true, List.mem_flatMap, List.mem_range, List.mem_map, i64v, ptc, flat1]; try (intros; simp [valsB, valB, flat1]); try decide))
  refine al_ind (fun i : Nat => (fun (i : Nat) => mkSt 2 [(0, .slice (some ⟨0, 0, none⟩) ps.length 0), (1, .slice (some ⟨1, 0, none⟩) ps.length 0), (12, .int .i64 ((ps.length : Nat) : Int)), (13, .int .i64 ((i : Nat) : Int))] [(0, ⟨(ps.flatMap ptc), 27, true, 2⟩), (1, ⟨(ps.flatMap ptc), 27, true, 2⟩)]) i) (fun i : Nat => (fun (i : Nat) => (i ≤ ps.length)) i) (fun i : Nat => (fun (i : Nat) => ps.length - i) i) (fun i hi1 ih1 => ?_) 0 (show (0 ≤ ps.length) from by omega)
  obtain ⟨i, hv1⟩ : ∃ z, z = i := ⟨i, rfl⟩; subst hv1
  have hi1' : (i ≤ ps.length) := hi1
  have hi : i ≤ ps.length := hi1'
  show AL _ _ _ (mkSt 2 [(0, .slice (some ⟨0, 0, none⟩) ps.length 0), (1, .slice (some ⟨1, 0, none⟩) ps.length 0), (12, .int .i64 ((ps.length : Nat) : Int)), (13, .int .i64 ((i : Nat) : Int))] [(0, ⟨(ps.flatMap ptc), 27, true, 2⟩), (1, ⟨(ps.flatMap ptc), 27, true, 2⟩)]) _
  refine al_round ?_
  refine aw_p 239 (
    .a 1 2 <| .nil _ _) ?_
  refine aw_sq 478 479 ?_
  refine aw_cd 956 957 (decide (((i : Nat) : Int) < ((ps.length : Nat) : Int))) (fun h1 => ?_) (fun h1 => ?_)
  · have h1p : ((((i : Nat) : Int) < ((ps.length : Nat) : Int))) := by first | (simpa using h1) | (have h1q := h1; simp at h1q; omega) | (have h1q := bx1 h1; simp at h1q; omega)
    refine aw_sk ?_
    refine then_normal ?_
    refine aw_sq 958 959 ?_
    refine aw_bl 1 1917 ?_
    refine aw_p 3835 (
      .a 2 2 <| .nil _ _) ?_
    refine aw_d 7671 (
      .a 2 2 <| .p (does_indexSlice (t := 24) (x := .tmp 16) (y := .tmp 17) (k := 0) (off := 0) (n := ps.length) (c := 0) (z := 2) (kd := .i64) (j := ((i : Nat) : Int)) (by kernel_rfl) (by kernel_rfl) (by kernel_rfl) (by kernel_rfl) (by kernel_rfl) (by omega) (by omega)) <|
      .p (does_load (t := 27) (x := .tmp 18) (k := 0) (off := (0 + (((i : Nat) : Int)).toNat * 2)) (b := ⟨(ps.flatMap ptc), 27, true, 2⟩) (v := .agg #[.int .i64 ((ps.getD i (0, 0)).1), .int .i64 ((ps.getD i (0, 0)).2)]) (by kernel_rfl) (by kernel_rfl) (by kernel_rfl) (ldV_pair (j := i) (by kernel_rfl) (by kernel_rfl) (by omega) (by omega))) <|
      .a 2 2 <| .p (does_indexSlice (t := 24) (x := .tmp 20) (y := .tmp 21) (k := 1) (off := 0) (n := ps.length) (c := 0) (z := 2) (kd := .i64) (j := ((i : Nat) : Int)) (by kernel_rfl) (by kernel_rfl) (by kernel_rfl) (by kernel_rfl) (by kernel_rfl) (by omega) (by omega)) <|
      .p (does_load (t := 27) (x := .tmp 22) (k := 1) (off := (0 + (((i : Nat) : Int)).toNat * 2)) (b := ⟨(ps.flatMap ptc), 27, true, 2⟩) (v := .agg #[.int .i64 ((ps.getD i (0, 0)).1), .int .i64 ((ps.getD i (0, 0)).2)]) (by kernel_rfl) (by kernel_rfl) (by kernel_rfl) (ldV_pair (j := i) (by kernel_rfl) (by kernel_rfl) (by omega) (by omega))) <|
      .p (does_e false ((show (!((((ps.getD i (0, 0)).1) == ((ps.getD i (0, 0)).1)) && ((((ps.getD i (0, 0)).2) == ((ps.getD i (0, 0)).2)) && true))) = false from by simp))) <| .nil _ _) ?_
    refine aw_fl 15343 ?_
    refine aw_sk ?_
    refine block_normal ?_
    refine then_normal ?_
    refine aw_p1 (
      .p (does_i (((i : Nat) : Int) + 1) (wrap_i64 (by omega) (by omega)) .i64) <| .a 1 2 <| .nil _ _) ?_
    refine then_normal ?_
    refine al_w [(0, .slice (some ⟨0, 0, none⟩) ps.length 0), (1, .slice (some ⟨1, 0, none⟩) ps.length 0), (12, .int .i64 ((ps.length : Nat) : Int)), (13, .int .i64 (((i + 1) : Nat) : Int))] [(0, ⟨(ps.flatMap ptc), 27, true, 2⟩), (1, ⟨(ps.flatMap ptc), 27, true, 2⟩)] ?_ (hc := (by simp [closedB, valsB, valB, List.all_eq_true, List.mem_flatMap, List.mem_range, List.mem_map, i64v, ptc, flat1]; try (intros; simp [valsB, valB, flat1]); try decide))
    exact ih1 (i + 1) (show ((i + 1) ≤ ps.length) from by omega) (show ps.length - (i + 1) < ps.length - i from by omega)
  · have h1p : ¬ ((((i : Nat) : Int) < ((ps.length : Nat) : Int))) := by first | (simpa using h1) | (have h1q := h1; simp at h1q; omega) | (have h1q := bx2 h1; simp at h1q; omega)
    refine aw_ex 0 ?_
    refine then_exit ?_
    refine then_exit ?_
    refine block_exit ?_
    refine then_normal ?_
    refine aw_p 31 (
      .a 1 2 <| .nil _ _) ?_
    refine aw_rt ?_
    exact en_ret [.bool true] (by kernel_rfl)
theorem concat_n (ps : List (Int × Int)) (N m : Nat) (hN : ps.length = N) (hm : m < N) (hz : N ≤ 4096) : AC Try.prog 44 2 [.slice (some ⟨1, 0, none⟩) 2 0] [(0, ⟨(ps.flatMap ptc), 27, true, 2⟩), (1, ⟨[.slice (some ⟨0, (0 + m * 2), none⟩) (N - m) 0, .slice (some ⟨0, 0, none⟩) m 0], 24, true, 1⟩)] (.slice (some ⟨2, 0, none⟩) N 0) [(0, ⟨(ps.flatMap ptc), 27, true, 2⟩), (1, ⟨[.slice (some ⟨0, (0 + m * 2), none⟩) (N - m) 0, .slice (some ⟨0, 0, none⟩) m 0], 24, true, 1⟩), (2, ⟨((Sp.rotL ps m).flatMap ptc), 27, true, 2⟩)] := by
  subst hN
  exact concat_ok ps m hm hz
theorem equal_n (ps qs : List (Int × Int)) (N : Nat) (h : ps = qs) (hN : ps.length = N) (hz : N ≤ 4096) : AC Try.prog 13 2 [.slice (some ⟨0, 0, none⟩) N 0, .slice (some ⟨1, 0, none⟩) N 0] [(0, ⟨(ps.flatMap ptc), 27, true, 2⟩), (1, ⟨(qs.flatMap ptc), 27, true, 2⟩)] (.bool true) [(0, ⟨(ps.flatMap ptc), 27, true, 2⟩), (1, ⟨(qs.flatMap ptc), 27, true, 2⟩)] := by
  subst h
  subst hN
  exact equal_ok ps hz
end Go.Proofs.Ytomnkdlfmjdckaa.Am

namespace Go.Proofs.Ytomnkdlfmjdckaa.Am
open Go Go.Proofs
set_option maxRecDepth 100000
set_option maxHeartbeats 4000000
set_option linter.unusedVariables false
set_option linter.unusedSimpArgs false
theorem norm_own (ps : List (Int × Int)) (m : Nat) (hn : 1 ≤ ps.length) (hz : ps.length ≤ 4096) (hm : m < ps.length) (hd : Sp.Diff ps) (hl : ∀ j, j < ps.length → Sp.befP (ps.getD j (0, 0)) (ps.getD m (0, 0)) = false) :
    AC Try.prog 14 1 ([.slice (some ⟨0, 0, none⟩) ps.length 0]) [(0, ⟨(ps.flatMap ptc), 27, true, 2⟩)] (.slice (some ⟨1, 0, none⟩) ps.length 0) [(0, ⟨(ps.flatMap ptc), 27, true, 2⟩), (1, ⟨((Sp.nrmL ps m).flatMap ptc), 27, true, 2⟩)] := by
  refine ac_in Try.func14 (fun w0 W pin => ?_)
  refine aw_p 3 (
    .a 1 2 <| .nil _ _) ?_
  refine aw_p 7 (
    .a 1 2 <|
    .p (does_callB (x := .func 41) (ars := #[.tmp 5]) (ats := #[24]) (g := 41) (vs := [.slice (some ⟨0, 0, none⟩) ps.length 0]) (m := 1) (r := 1) (firsts := #[]) (caps := #[]) (args0 := [.slice (some ⟨0, 0, none⟩) ps.length 0]) (pre0 := [(0, ⟨(ps.flatMap ptc), 27, true, 2⟩)]) (post0 := [(0, ⟨(ps.flatMap ptc), 27, true, 2⟩), (1, ⟨(ps.flatMap ptc), 27, true, 2⟩)]) (pre := [(0, ⟨(ps.flatMap ptc), 27, true, 2⟩)]) (post := [(0, ⟨(ps.flatMap ptc), 27, true, 2⟩), (2, ⟨(ps.flatMap ptc), 27, true, 2⟩)]) (v0 := .slice (some ⟨1, 0, none⟩) ps.length 0) (v := .slice (some ⟨2, 0, none⟩) ps.length 0) [0, 2] (by kernel_rfl) (by kernel_rfl) (by kernel_rfl) (by kernel_rfl) (clone_own ps (by omega) (by omega)) (.cons (.slice _ _ _ _ _ (by decide)) .nil) ⟨rfl, ⟨rfl, rfl, rfl, (.flats (flats_pair _))⟩, trivial⟩ (by kernel_rfl) (by kernel_rfl) (by kernel_rfl) ⟨rfl, ⟨rfl, rfl, rfl, (.flats (flats_pair _))⟩, rfl, ⟨rfl, rfl, rfl, (.flats (flats_pair _))⟩, trivial⟩ (.slice _ _ _ _ _ (by decide))) <|
    .a 1 3 <| .nil _ _) ?_
  refine aw_sq 14 15 ?_
  refine aw_p 29 (
    .a 2 3 <| .p (does_b false ((show (((ps.length : Nat) : Int) == 0) = false from by rw [beq_eq_false_iff_ne]; omega))) <| .nil _ _) ?_
  refine aw_fl 59 ?_
  refine aw_sk ?_
  refine then_normal ?_
  refine aw_sq 30 31 ?_
  refine aw_p 61 (
    .a 1 3 <|
    .p (does_callB (x := .func 12) (ars := #[.tmp 10]) (ats := #[24]) (g := 12) (vs := [.slice (some ⟨2, 0, none⟩) ps.length 0]) (m := 1) (r := 0) (firsts := #[]) (caps := #[]) (args0 := [.slice (some ⟨0, 0, none⟩) ps.length 0]) (pre0 := [(0, ⟨(ps.flatMap ptc), 27, true, 2⟩)]) (post0 := [(0, ⟨(ps.flatMap ptc), 27, true, 2⟩)]) (pre := [(2, ⟨(ps.flatMap ptc), 27, true, 2⟩)]) (post := [(2, ⟨(ps.flatMap ptc), 27, true, 2⟩)]) (v0 := .int .i64 (Sp.twF ps 1 0)) (v := .int .i64 (Sp.twF ps 1 0)) [2] (by kernel_rfl) (by kernel_rfl) (by kernel_rfl) (by kernel_rfl) (twicen_own ps ps.length (rfl) (by first | omega | decide)) (.cons (.slice _ _ _ _ _ (by decide)) .nil) ⟨rfl, ⟨rfl, rfl, rfl, (.flats (flats_pair _))⟩, trivial⟩ (by kernel_rfl) (by kernel_rfl) (by kernel_rfl) ⟨rfl, ⟨rfl, rfl, rfl, (.flats (flats_pair _))⟩, trivial⟩ (.flatB (by kernel_rfl))) <|
    .a 1 3 <| .nil _ _) ?_
  refine aw_cd 122 123 (decide ((Sp.twF ps 1 0) < 0)) (fun h1 => ?_) (fun h1 => ?_)
  · have h1p : (((Sp.twF ps 1 0) < 0)) := by first | (simpa using h1) | (have h1q := h1; simp at h1q; omega) | (have h1q := bx1 h1; simp at h1q; omega)
    have ht : Sp.twF ps 1 0 < 0 := by simpa using h1
    obtain ⟨q, hq⟩ : ∃ q, ps.length - 1 - m = q := ⟨_, rfl⟩
    refine aw_p1 (
      .a 1 3 <|
      .p (does_callB (x := .func 35) (ars := #[.tmp 13]) (ats := #[24]) (g := 35) (vs := [.slice (some ⟨2, 0, none⟩) ps.length 0]) (m := 1) (r := 0) (firsts := #[]) (caps := #[]) (args0 := [.slice (some ⟨0, 0, none⟩) ps.length 0]) (pre0 := [(0, ⟨(ps.flatMap ptc), 27, true, 2⟩)]) (post0 := [(0, ⟨(ps.reverse.flatMap ptc), 27, true, 2⟩)]) (pre := [(2, ⟨(ps.flatMap ptc), 27, true, 2⟩)]) (post := [(2, ⟨(ps.reverse.flatMap ptc), 27, true, 2⟩)]) (v0 := .tuple #[]) (v := .tuple #[]) [2] (by kernel_rfl) (by kernel_rfl) (by kernel_rfl) (by kernel_rfl) (rev_ok ps (by omega) (by omega)) (.cons (.slice _ _ _ _ _ (by decide)) .nil) ⟨rfl, ⟨rfl, rfl, rfl, (.flats (flats_pair _))⟩, trivial⟩ (by kernel_rfl) (by kernel_rfl) (by kernel_rfl) ⟨rfl, ⟨rfl, rfl, rfl, (.flats (flats_pair _))⟩, trivial⟩ (.flatB (by kernel_rfl))) <| .nil _ _) ?_
    refine then_normal ?_
    refine aw_p 63 (
      .a 2 3 <|
      .p (does_callB (x := .func 43) (ars := #[.tmp 16, .func 32]) (ats := #[24, 68]) (g := 43) (vs := [.slice (some ⟨2, 0, none⟩) ps.length 0, .func (.func 32) #[] #[]]) (m := 1) (r := 0) (firsts := #[]) (caps := #[]) (args0 := [.slice (some ⟨0, 0, none⟩) ps.length 0, .func (.func 32) #[] #[]]) (pre0 := [(0, ⟨(ps.reverse.flatMap ptc), 27, true, 2⟩)]) (post0 := [(0, ⟨(ps.reverse.flatMap ptc), 27, true, 2⟩)]) (pre := [(2, ⟨(ps.reverse.flatMap ptc), 27, true, 2⟩)]) (post := [(2, ⟨(ps.reverse.flatMap ptc), 27, true, 2⟩)]) (v0 := .agg #[.int .i64 ((Sp.mnP ps.reverse (ps.length - 1)).1), .int .i64 ((Sp.mnP ps.reverse (ps.length - 1)).2)]) (v := .agg #[.int .i64 ((Sp.mnP ps.reverse (ps.length - 1)).1), .int .i64 ((Sp.mnP ps.reverse (ps.length - 1)).2)]) [2] (by kernel_rfl) (by kernel_rfl) (by kernel_rfl) (by kernel_rfl) (minf_n ps.reverse ps.length (by first | rfl | simp) (by omega) (by omega)) (.cons (.slice _ _ _ _ _ (by decide)) (.cons (.flatB (by kernel_rfl)) .nil)) ⟨rfl, ⟨rfl, rfl, rfl, (.flats (flats_pair _))⟩, trivial⟩ (by kernel_rfl) (by kernel_rfl) (by kernel_rfl) ⟨rfl, ⟨rfl, rfl, rfl, (.flats (flats_pair _))⟩, trivial⟩ (.flatB (by kernel_rfl))) <|
      .p (does_int (n' := ((q : Nat) : Int)) (does_callB (x := .func 42) (ars := #[.tmp 15, .tmp 17]) (ats := #[24, 27]) (g := 42) (vs := [.slice (some ⟨2, 0, none⟩) ps.length 0, .agg #[.int .i64 ((Sp.mnP ps.reverse (ps.length - 1)).1), .int .i64 ((Sp.mnP ps.reverse (ps.length - 1)).2)]]) (m := 1) (r := 0) (firsts := #[]) (caps := #[]) (args0 := [.slice (some ⟨0, 0, none⟩) ps.length 0, .agg #[.int .i64 ((Sp.mnP ps.reverse (ps.length - 1)).1), .int .i64 ((Sp.mnP ps.reverse (ps.length - 1)).2)]]) (pre0 := [(0, ⟨(ps.reverse.flatMap ptc), 27, true, 2⟩)]) (post0 := [(0, ⟨(ps.reverse.flatMap ptc), 27, true, 2⟩)]) (pre := [(2, ⟨(ps.reverse.flatMap ptc), 27, true, 2⟩)]) (post := [(2, ⟨(ps.reverse.flatMap ptc), 27, true, 2⟩)]) (v0 := .int .i64 (Sp.ixF (Sp.eqTo ((Sp.mnP ps.reverse (ps.length - 1)).1, (Sp.mnP ps.reverse (ps.length - 1)).2)) ps.reverse 0)) (v := .int .i64 (Sp.ixF (Sp.eqTo ((Sp.mnP ps.reverse (ps.length - 1)).1, (Sp.mnP ps.reverse (ps.length - 1)).2)) ps.reverse 0)) [2] (by kernel_rfl) (by kernel_rfl) (by kernel_rfl) (by kernel_rfl) (index_n ps.reverse ps.length (by first | rfl | simp) (by omega) (by omega) ((Sp.mnP ps.reverse (ps.length - 1)).1) ((Sp.mnP ps.reverse (ps.length - 1)).2)) (.cons (.slice _ _ _ _ _ (by decide)) (.cons (.flatB (by kernel_rfl)) .nil)) ⟨rfl, ⟨rfl, rfl, rfl, (.flats (flats_pair _))⟩, trivial⟩ (by kernel_rfl) (by kernel_rfl) (by kernel_rfl) ⟨rfl, ⟨rfl, rfl, rfl, (.flats (flats_pair _))⟩, trivial⟩ (.flatB (by kernel_rfl))) ((Sp.ix_rev hm hd hl hq))) <|
      .a 1 3 <| .nil _ _) ?_
    refine aw_d 127 (
      .a 2 3 <|
      .p (does_val (v' := .slice (some ⟨2, (0 + q * 2), none⟩) (ps.length - q) 0) (does_slice (t := 24) (x := .tmp 19) (lo := some (.tmp 20)) (hi := none) (k := 2) (off := 0) (n := ps.length) (c := 0) (z := 2) (l := ((q : Nat) : Int)) (h := ((ps.length : Nat) : Int)) (m := (ps.length - q)) (b := ⟨(ps.reverse.flatMap ptc), 27, true, 2⟩) (by kernel_rfl) (by kernel_rfl) (by kernel_rfl) (by kernel_rfl) (by kernel_rfl) (by kernel_rfl) (by kernel_rfl) (by kernel_rfl) (by omega) (by omega) (by omega) (by omega)) (by kernel_rfl)) <|
      .a 2 3 <|
      .p (does_val (v' := .slice (some ⟨2, 0, none⟩) q 0) (does_slice (t := 24) (x := .tmp 22) (lo := none) (hi := some (.tmp 23)) (k := 2) (off := 0) (n := ps.length) (c := 0) (z := 2) (l := 0) (h := ((q : Nat) : Int)) (m := q) (b := ⟨(ps.reverse.flatMap ptc), 27, true, 2⟩) (by kernel_rfl) (by kernel_rfl) (by kernel_rfl) (by kernel_rfl) (by kernel_rfl) (by kernel_rfl) (by kernel_rfl) (by kernel_rfl) (by omega) (by omega) (by omega) (by omega)) (by kernel_rfl)) <|
      .a 1 3 <|
      .p (does_callB (x := .func 44) (ars := #[.tmp 25]) (ats := #[34]) (g := 44) (vs := [.slice (some ⟨3, 0, none⟩) 2 0]) (m := 2) (r := 1) (firsts := #[]) (caps := #[]) (args0 := [.slice (some ⟨1, 0, none⟩) 2 0]) (pre0 := [(0, ⟨(ps.reverse.flatMap ptc), 27, true, 2⟩), (1, ⟨[.slice (some ⟨0, (0 + q * 2), none⟩) (ps.length - q) 0, .slice (some ⟨0, 0, none⟩) q 0], 24, true, 1⟩)]) (post0 := [(0, ⟨(ps.reverse.flatMap ptc), 27, true, 2⟩), (1, ⟨[.slice (some ⟨0, (0 + q * 2), none⟩) (ps.length - q) 0, .slice (some ⟨0, 0, none⟩) q 0], 24, true, 1⟩), (2, ⟨((Sp.rotL ps.reverse q).flatMap ptc), 27, true, 2⟩)]) (pre := [(2, ⟨(ps.reverse.flatMap ptc), 27, true, 2⟩), (3, ⟨[.slice (some ⟨2, (0 + q * 2), none⟩) (ps.length - q) 0, .slice (some ⟨2, 0, none⟩) q 0], 24, true, 1⟩)]) (post := [(2, ⟨(ps.reverse.flatMap ptc), 27, true, 2⟩), (3, ⟨[.slice (some ⟨2, (0 + q * 2), none⟩) (ps.length - q) 0, .slice (some ⟨2, 0, none⟩) q 0], 24, true, 1⟩), (4, ⟨((Sp.rotL ps.reverse q).flatMap ptc), 27, true, 2⟩)]) (v0 := .slice (some ⟨2, 0, none⟩) ps.length 0) (v := .slice (some ⟨4, 0, none⟩) ps.length 0) [2, 3, 4] (by kernel_rfl) (by kernel_rfl) (by kernel_rfl) (by kernel_rfl) (concat_n ps.reverse ps.length q (by first | rfl | simp) (by omega) (by omega)) (.cons (.slice _ _ _ _ _ (by decide)) .nil) ⟨rfl, ⟨rfl, rfl, rfl, (.flats (flats_pair _))⟩, rfl, ⟨rfl, rfl, rfl, (.cons (.slice _ _ _ _ _ (by decide)) (.cons (.slice _ _ _ _ _ (by decide)) .nil))⟩, trivial⟩ (by kernel_rfl) (by kernel_rfl) (by kernel_rfl) ⟨rfl, ⟨rfl, rfl, rfl, (.flats (flats_pair _))⟩, rfl, ⟨rfl, rfl, rfl, (.cons (.slice _ _ _ _ _ (by decide)) (.cons (.slice _ _ _ _ _ (by decide)) .nil))⟩, rfl, ⟨rfl, rfl, rfl, (.flats (flats_pair _))⟩, trivial⟩ (.slice _ _ _ _ _ (by decide))) <|
      .a 1 5 <| .nil _ _) ?_
    refine aw_w [(0, .slice (some ⟨0, 0, none⟩) ps.length 0), (2, .slice (some ⟨4, 0, none⟩) ps.length 0), (3, .slice (some ⟨2, 0, none⟩) ps.length 0), (4, .int .i64 ((q : Nat) : Int)), (5, .slice (some ⟨0, 0, none⟩) ps.length 0), (6, .slice (some ⟨2, 0, none⟩) ps.length 0), (7, .slice (some ⟨2, 0, none⟩) ps.length 0), (8, .int .i64 ((ps.length : Nat) : Int)), (9, .bool false), (10, .slice (some ⟨2, 0, none⟩) ps.length 0), (11, .int .i64 (Sp.twF ps 1 0)), (12, .bool (decide ((Sp.twF ps 1 0) < 0))), (13, .slice (some ⟨2, 0, none⟩) ps.length 0), (15, .slice (some ⟨2, 0, none⟩) ps.length 0), (16, .slice (some ⟨2, 0, none⟩) ps.length 0), (17, .agg #[.int .i64 ((Sp.mnP ps.reverse (ps.length - 1)).1), .int .i64 ((Sp.mnP ps.reverse (ps.length - 1)).2)]), (18, .int .i64 ((q : Nat) : Int)), (19, .slice (some ⟨2, 0, none⟩) ps.length 0), (20, .int .i64 ((q : Nat) : Int)), (21, .slice (some ⟨2, (0 + q * 2), none⟩) (ps.length - q) 0), (22, .slice (some ⟨2, 0, none⟩) ps.length 0), (23, .int .i64 ((q : Nat) : Int)), (24, .slice (some ⟨2, 0, none⟩) q 0), (25, .slice (some ⟨3, 0, none⟩) 2 0), (26, .slice (some ⟨4, 0, none⟩) ps.length 0)] [(0, ⟨(ps.flatMap ptc), 27, true, 2⟩), (2, ⟨(ps.reverse.flatMap ptc), 27, true, 2⟩), (3, ⟨[.slice (some ⟨2, (0 + q * 2), none⟩) (ps.length - q) 0, .slice (some ⟨2, 0, none⟩) q 0], 24, true, 1⟩), (4, ⟨((Sp.nrmL ps m).flatMap ptc), 27, true, 2⟩)] ?_ (by kernel_rfl) (by rw [Sp.nrm_rev ht hq]; kernel_rfl) (hc := (by simp [closedB, valsB, valB, List.all_eq_true, List.mem_flatMap, List.mem_range, List.mem_map, i64v, ptc, flat1]; try (intros; simp [valsB, valB, flat1]); try decide))
    refine aw_r [(1, 4)] [(2, .slice (some ⟨4, 0, none⟩) ps.length 0)] [(0, ⟨(ps.flatMap ptc), 27, true, 2⟩), (4, ⟨((Sp.nrmL ps m).flatMap ptc), 27, true, 2⟩)] [(2, .slice (some ⟨1, 0, none⟩) ps.length 0)] [(0, ⟨(ps.flatMap ptc), 27, true, 2⟩), (1, ⟨((Sp.nrmL ps m).flatMap ptc), 27, true, 2⟩)] ?_ ⟨rfl, (.slice _ _ _ _ _ rfl), trivial⟩ ⟨rfl, ⟨rfl, rfl, rfl, (.flats (flats_pair _))⟩, rfl, ⟨rfl, rfl, rfl, (.flats (flats_pair _))⟩, trivial⟩
    refine aw_rt ?_
    exact en_ret [.slice (some ⟨1, 0, none⟩) ps.length 0] (by kernel_rfl)
  · have h1p : ¬ (((Sp.twF ps 1 0) < 0)) := by first | (simpa using h1) | (have h1q := h1; simp at h1q; omega) | (have h1q := bx2 h1; simp at h1q; omega)
    have ht : ¬ Sp.twF ps 1 0 < 0 := by simpa using h1
    obtain ⟨q, hq⟩ : ∃ q, ps.length - 1 - m = q := ⟨_, rfl⟩
    refine aw_sk ?_
    refine then_normal ?_
    refine aw_p 63 (
      .a 2 3 <|
      .p (does_callB (x := .func 43) (ars := #[.tmp 16, .func 32]) (ats := #[24, 68]) (g := 43) (vs := [.slice (some ⟨2, 0, none⟩) ps.length 0, .func (.func 32) #[] #[]]) (m := 1) (r := 0) (firsts := #[]) (caps := #[]) (args0 := [.slice (some ⟨0, 0, none⟩) ps.length 0, .func (.func 32) #[] #[]]) (pre0 := [(0, ⟨(ps.flatMap ptc), 27, true, 2⟩)]) (post0 := [(0, ⟨(ps.flatMap ptc), 27, true, 2⟩)]) (pre := [(2, ⟨(ps.flatMap ptc), 27, true, 2⟩)]) (post := [(2, ⟨(ps.flatMap ptc), 27, true, 2⟩)]) (v0 := .agg #[.int .i64 ((Sp.mnP ps (ps.length - 1)).1), .int .i64 ((Sp.mnP ps (ps.length - 1)).2)]) (v := .agg #[.int .i64 ((Sp.mnP ps (ps.length - 1)).1), .int .i64 ((Sp.mnP ps (ps.length - 1)).2)]) [2] (by kernel_rfl) (by kernel_rfl) (by kernel_rfl) (by kernel_rfl) (minf_n ps ps.length (by first | rfl | simp) (by omega) (by omega)) (.cons (.slice _ _ _ _ _ (by decide)) (.cons (.flatB (by kernel_rfl)) .nil)) ⟨rfl, ⟨rfl, rfl, rfl, (.flats (flats_pair _))⟩, trivial⟩ (by kernel_rfl) (by kernel_rfl) (by kernel_rfl) ⟨rfl, ⟨rfl, rfl, rfl, (.flats (flats_pair _))⟩, trivial⟩ (.flatB (by kernel_rfl))) <|
      .p (does_int (n' := ((m : Nat) : Int)) (does_callB (x := .func 42) (ars := #[.tmp 15, .tmp 17]) (ats := #[24, 27]) (g := 42) (vs := [.slice (some ⟨2, 0, none⟩) ps.length 0, .agg #[.int .i64 ((Sp.mnP ps (ps.length - 1)).1), .int .i64 ((Sp.mnP ps (ps.length - 1)).2)]]) (m := 1) (r := 0) (firsts := #[]) (caps := #[]) (args0 := [.slice (some ⟨0, 0, none⟩) ps.length 0, .agg #[.int .i64 ((Sp.mnP ps (ps.length - 1)).1), .int .i64 ((Sp.mnP ps (ps.length - 1)).2)]]) (pre0 := [(0, ⟨(ps.flatMap ptc), 27, true, 2⟩)]) (post0 := [(0, ⟨(ps.flatMap ptc), 27, true, 2⟩)]) (pre := [(2, ⟨(ps.flatMap ptc), 27, true, 2⟩)]) (post := [(2, ⟨(ps.flatMap ptc), 27, true, 2⟩)]) (v0 := .int .i64 (Sp.ixF (Sp.eqTo ((Sp.mnP ps (ps.length - 1)).1, (Sp.mnP ps (ps.length - 1)).2)) ps 0)) (v := .int .i64 (Sp.ixF (Sp.eqTo ((Sp.mnP ps (ps.length - 1)).1, (Sp.mnP ps (ps.length - 1)).2)) ps 0)) [2] (by kernel_rfl) (by kernel_rfl) (by kernel_rfl) (by kernel_rfl) (index_n ps ps.length (by first | rfl | simp) (by omega) (by omega) ((Sp.mnP ps (ps.length - 1)).1) ((Sp.mnP ps (ps.length - 1)).2)) (.cons (.slice _ _ _ _ _ (by decide)) (.cons (.flatB (by kernel_rfl)) .nil)) ⟨rfl, ⟨rfl, rfl, rfl, (.flats (flats_pair _))⟩, trivial⟩ (by kernel_rfl) (by kernel_rfl) (by kernel_rfl) ⟨rfl, ⟨rfl, rfl, rfl, (.flats (flats_pair _))⟩, trivial⟩ (.flatB (by kernel_rfl))) ((Sp.ix_plain hm hd hl))) <|
      .a 1 3 <| .nil _ _) ?_
    refine aw_d 127 (
      .a 2 3 <|
      .p (does_val (v' := .slice (some ⟨2, (0 + m * 2), none⟩) (ps.length - m) 0) (does_slice (t := 24) (x := .tmp 19) (lo := some (.tmp 20)) (hi := none) (k := 2) (off := 0) (n := ps.length) (c := 0) (z := 2) (l := ((m : Nat) : Int)) (h := ((ps.length : Nat) : Int)) (m := (ps.length - m)) (b := ⟨(ps.flatMap ptc), 27, true, 2⟩) (by kernel_rfl) (by kernel_rfl) (by kernel_rfl) (by kernel_rfl) (by kernel_rfl) (by kernel_rfl) (by kernel_rfl) (by kernel_rfl) (by omega) (by omega) (by omega) (by omega)) (by kernel_rfl)) <|
      .a 2 3 <|
      .p (does_val (v' := .slice (some ⟨2, 0, none⟩) m 0) (does_slice (t := 24) (x := .tmp 22) (lo := none) (hi := some (.tmp 23)) (k := 2) (off := 0) (n := ps.length) (c := 0) (z := 2) (l := 0) (h := ((m : Nat) : Int)) (m := m) (b := ⟨(ps.flatMap ptc), 27, true, 2⟩) (by kernel_rfl) (by kernel_rfl) (by kernel_rfl) (by kernel_rfl) (by kernel_rfl) (by kernel_rfl) (by kernel_rfl) (by kernel_rfl) (by omega) (by omega) (by omega) (by omega)) (by kernel_rfl)) <|
      .a 1 3 <|
      .p (does_callB (x := .func 44) (ars := #[.tmp 25]) (ats := #[34]) (g := 44) (vs := [.slice (some ⟨3, 0, none⟩) 2 0]) (m := 2) (r := 1) (firsts := #[]) (caps := #[]) (args0 := [.slice (some ⟨1, 0, none⟩) 2 0]) (pre0 := [(0, ⟨(ps.flatMap ptc), 27, true, 2⟩), (1, ⟨[.slice (some ⟨0, (0 + m * 2), none⟩) (ps.length - m) 0, .slice (some ⟨0, 0, none⟩) m 0], 24, true, 1⟩)]) (post0 := [(0, ⟨(ps.flatMap ptc), 27, true, 2⟩), (1, ⟨[.slice (some ⟨0, (0 + m * 2), none⟩) (ps.length - m) 0, .slice (some ⟨0, 0, none⟩) m 0], 24, true, 1⟩), (2, ⟨((Sp.rotL ps m).flatMap ptc), 27, true, 2⟩)]) (pre := [(2, ⟨(ps.flatMap ptc), 27, true, 2⟩), (3, ⟨[.slice (some ⟨2, (0 + m * 2), none⟩) (ps.length - m) 0, .slice (some ⟨2, 0, none⟩) m 0], 24, true, 1⟩)]) (post := [(2, ⟨(ps.flatMap ptc), 27, true, 2⟩), (3, ⟨[.slice (some ⟨2, (0 + m * 2), none⟩) (ps.length - m) 0, .slice (some ⟨2, 0, none⟩) m 0], 24, true, 1⟩), (4, ⟨((Sp.rotL ps m).flatMap ptc), 27, true, 2⟩)]) (v0 := .slice (some ⟨2, 0, none⟩) ps.length 0) (v := .slice (some ⟨4, 0, none⟩) ps.length 0) [2, 3, 4] (by kernel_rfl) (by kernel_rfl) (by kernel_rfl) (by kernel_rfl) (concat_n ps ps.length m (by first | rfl | simp) (by omega) (by omega)) (.cons (.slice _ _ _ _ _ (by decide)) .nil) ⟨rfl, ⟨rfl, rfl, rfl, (.flats (flats_pair _))⟩, rfl, ⟨rfl, rfl, rfl, (.cons (.slice _ _ _ _ _ (by decide)) (.cons (.slice _ _ _ _ _ (by decide)) .nil))⟩, trivial⟩ (by kernel_rfl) (by kernel_rfl) (by kernel_rfl) ⟨rfl, ⟨rfl, rfl, rfl, (.flats (flats_pair _))⟩, rfl, ⟨rfl, rfl, rfl, (.cons (.slice _ _ _ _ _ (by decide)) (.cons (.slice _ _ _ _ _ (by decide)) .nil))⟩, rfl, ⟨rfl, rfl, rfl, (.flats (flats_pair _))⟩, trivial⟩ (.slice _ _ _ _ _ (by decide))) <|
      .a 1 5 <| .nil _ _) ?_
    refine aw_w [(0, .slice (some ⟨0, 0, none⟩) ps.length 0), (2, .slice (some ⟨4, 0, none⟩) ps.length 0), (3, .slice (some ⟨2, 0, none⟩) ps.length 0), (4, .int .i64 ((m : Nat) : Int)), (5, .slice (some ⟨0, 0, none⟩) ps.length 0), (6, .slice (some ⟨2, 0, none⟩) ps.length 0), (7, .slice (some ⟨2, 0, none⟩) ps.length 0), (8, .int .i64 ((ps.length : Nat) : Int)), (9, .bool false), (10, .slice (some ⟨2, 0, none⟩) ps.length 0), (11, .int .i64 (Sp.twF ps 1 0)), (12, .bool (decide ((Sp.twF ps 1 0) < 0))), (15, .slice (some ⟨2, 0, none⟩) ps.length 0), (16, .slice (some ⟨2, 0, none⟩) ps.length 0), (17, .agg #[.int .i64 ((Sp.mnP ps (ps.length - 1)).1), .int .i64 ((Sp.mnP ps (ps.length - 1)).2)]), (18, .int .i64 ((m : Nat) : Int)), (19, .slice (some ⟨2, 0, none⟩) ps.length 0), (20, .int .i64 ((m : Nat) : Int)), (21, .slice (some ⟨2, (0 + m * 2), none⟩) (ps.length - m) 0), (22, .slice (some ⟨2, 0, none⟩) ps.length 0), (23, .int .i64 ((m : Nat) : Int)), (24, .slice (some ⟨2, 0, none⟩) m 0), (25, .slice (some ⟨3, 0, none⟩) 2 0), (26, .slice (some ⟨4, 0, none⟩) ps.length 0)] [(0, ⟨(ps.flatMap ptc), 27, true, 2⟩), (2, ⟨(ps.flatMap ptc), 27, true, 2⟩), (3, ⟨[.slice (some ⟨2, (0 + m * 2), none⟩) (ps.length - m) 0, .slice (some ⟨2, 0, none⟩) m 0], 24, true, 1⟩), (4, ⟨((Sp.nrmL ps m).flatMap ptc), 27, true, 2⟩)] ?_ (by kernel_rfl) (by rw [Sp.nrm_pl ht]; kernel_rfl) (hc := (by simp [closedB, valsB, valB, List.all_eq_true, List.mem_flatMap, List.mem_range, List.mem_map, i64v, ptc, flat1]; try (intros; simp [valsB, valB, flat1]); try decide))
    refine aw_r [(1, 4)] [(2, .slice (some ⟨4, 0, none⟩) ps.length 0)] [(0, ⟨(ps.flatMap ptc), 27, true, 2⟩), (4, ⟨((Sp.nrmL ps m).flatMap ptc), 27, true, 2⟩)] [(2, .slice (some ⟨1, 0, none⟩) ps.length 0)] [(0, ⟨(ps.flatMap ptc), 27, true, 2⟩), (1, ⟨((Sp.nrmL ps m).flatMap ptc), 27, true, 2⟩)] ?_ ⟨rfl, (.slice _ _ _ _ _ rfl), trivial⟩ ⟨rfl, ⟨rfl, rfl, rfl, (.flats (flats_pair _))⟩, rfl, ⟨rfl, rfl, rfl, (.flats (flats_pair _))⟩, trivial⟩
    refine aw_rt ?_
    exact en_ret [.slice (some ⟨1, 0, none⟩) ps.length 0] (by kernel_rfl)
end Go.Proofs.Ytomnkdlfmjdckaa.Am
