/-
  The walk of the greatest distance.
-/
import Derived.Test.YtadifmimefmcnaaProg
import Derived.Test.YtadifmimefmcnaaAm16
import Derived.Test.YtadifmimefmcnaaHo
import Derived.Test.YtadifmimefmcnaaHu8
namespace Go.Proofs.Ytadifmimefmcnaa.Am
open Go Go.Proofs
set_option maxRecDepth 100000
set_option maxHeartbeats 4000000
set_option linter.unusedVariables false
set_option linter.unusedSimpArgs false

theorem hullfar_ro (ps h : List (Int × Int)) (hh : Sp.hullF (ps.map Sp.lmP) = h) (h1 : 1 ≤ ps.length) (hz : ps.length ≤ 8796093021952) (hhl : h.length ≤ 17592186043904) (hfh : Sp.Few 1048576 h) :
    AC Try.prog 37 1 ([.slice (some ⟨0, 0, none⟩) ps.length 0]) [(0, ⟨(ps.flatMap ptc), 29, false, 2⟩)] (.int .i64 (Sp.farF h 0 0)) [] := by
  refine ac_in Try.func37 (fun w0 W pin => ?_)
  refine aw_p 3 (
    .a 1 1 <| .nil _ _) ?_
  refine aw_p 7 (
    .a 1 1 <| .nil _ _) ?_
  refine aw_p 15 (
    .a 1 1 <|
    .p (does_callB (x := .func 36) (ars := #[.tmp 9]) (ats := #[24]) (g := 36) (vs := [.slice (some ⟨0, 0, none⟩) ps.length 0]) (m := 1) (r := 1) (firsts := #[]) (caps := #[]) (args0 := [.slice (some ⟨0, 0, none⟩) ps.length 0]) (pre0 := [(0, ⟨(ps.flatMap ptc), 29, false, 2⟩)]) (post0 := [(1, ⟨(h.flatMap ptc), 29, true, 2⟩)]) (pre := [(0, ⟨(ps.flatMap ptc), 29, false, 2⟩)]) (post := [(1, ⟨(h.flatMap ptc), 29, true, 2⟩)]) (v0 := .slice (some ⟨1, 0, none⟩) h.length 0) (v := .slice (some ⟨1, 0, none⟩) h.length 0) [0, 1] (by kernel_rfl) (by kernel_rfl) (by kernel_rfl) (by kernel_rfl) (hull_ro ps h hh h1 hz) (.cons (.slice _ _ _ _ _ (by decide)) .nil) ⟨rfl, ⟨rfl, rfl, rfl, (.flats (flats_pair _))⟩, trivial⟩ (by kernel_rfl) (by kernel_rfl) (by kernel_rfl) ⟨rfl, ⟨rfl, rfl, rfl, (.flats (flats_pair _))⟩, trivial⟩ (.slice _ _ _ _ _ (by decide))) <|
    .a 1 2 <| .nil _ _) ?_
  refine aw_sq 30 31 ?_
  refine aw_p 61 (
    .a 3 2 <| .nil _ _) ?_
  refine aw_bl 0 123 ?_
  refine aw_lp 247 ?_
  refine al_w [(2, .int .i64 0), (3, .int .i64 0), (4, .slice (some ⟨1, 0, none⟩) h.length 0), (11, .slice (some ⟨1, 0, none⟩) h.length 0), (12, .int .i64 ((h.length : Nat) : Int)), (13, .int .i64 ((0 : Nat) : Int))] [(0, ⟨(ps.flatMap ptc), 29, false, 2⟩), (1, ⟨(h.flatMap ptc), 29, true, 2⟩)] ?_ (hc := (by simp [closedB, valsB, valB, List.all_eq_true, List.mem_flatMap, List.mem_range, List.mem_map, i64v, ptc, flat1]; try (intros; simp [valsB, valB, flat1]); try decide))
  refine al_ind (fun i : Nat × Int => (fun (u : Nat) (m : Int) => mkSt 1 [(2, .int .i64 0), (3, .int .i64 m), (4, .slice (some ⟨1, 0, none⟩) h.length 0), (11, .slice (some ⟨1, 0, none⟩) h.length 0), (12, .int .i64 ((h.length : Nat) : Int)), (13, .int .i64 ((u : Nat) : Int))] [(0, ⟨(ps.flatMap ptc), 29, false, 2⟩), (1, ⟨(h.flatMap ptc), 29, true, 2⟩)]) i.1 i.2) (fun i : Nat × Int => (fun (u : Nat) (m : Int) => (u ≤ h.length) ∧ (Sp.farF h u m = Sp.farF h 0 0)) i.1 i.2) (fun i : Nat × Int => (fun (u : Nat) (m : Int) => h.length - u) i.1 i.2) (fun i hi1 ih1 => ?_) (0, 0) (show (0 ≤ h.length) ∧ (Sp.farF h 0 0 = Sp.farF h 0 0) from ⟨by omega, by rfl⟩)
  obtain ⟨u, m⟩ := i
  have hi1' : (u ≤ h.length) ∧ (Sp.farF h u m = Sp.farF h 0 0) := hi1
  obtain ⟨hi, hs⟩ := hi1'
  show AL _ _ _ (mkSt 1 [(2, .int .i64 0), (3, .int .i64 m), (4, .slice (some ⟨1, 0, none⟩) h.length 0), (11, .slice (some ⟨1, 0, none⟩) h.length 0), (12, .int .i64 ((h.length : Nat) : Int)), (13, .int .i64 ((u : Nat) : Int))] [(0, ⟨(ps.flatMap ptc), 29, false, 2⟩), (1, ⟨(h.flatMap ptc), 29, true, 2⟩)]) _
  refine al_round ?_
  refine aw_p 495 (
    .a 1 2 <| .nil _ _) ?_
  refine aw_sq 990 991 ?_
  refine aw_cd 1980 1981 (decide (((u : Nat) : Int) < ((h.length : Nat) : Int))) (fun h1 => ?_) (fun h1 => ?_)
  · have h1p : ((((u : Nat) : Int) < ((h.length : Nat) : Int))) := by first | (simpa using h1) | (have h1q := h1; simp at h1q; omega) | (have h1q := bx1 h1; simp at h1q; omega)
    have hul : u < h.length := by omega
    refine aw_sk ?_
    refine then_normal ?_
    refine aw_sq 1982 1983 ?_
    refine aw_bl 1 3965 ?_
    refine aw_p 7931 (
      .a 1 2 <| .p (does_indexSlice (t := 24) (x := .tmp 11) (y := .tmp 13) (k := 1) (off := 0) (n := h.length) (c := 0) (z := 2) (kd := .i64) (j := ((u : Nat) : Int)) (by kernel_rfl) (by kernel_rfl) (by kernel_rfl) (by kernel_rfl) (by kernel_rfl) (by omega) (by omega)) <|
      .p (does_load (t := 29) (x := .tmp 16) (k := 1) (off := (0 + (((u : Nat) : Int)).toNat * 2)) (b := ⟨(h.flatMap ptc), 29, true, 2⟩) (v := .agg #[.int .i64 ((h.getD u (0, 0)).1), .int .i64 ((h.getD u (0, 0)).2)]) (by kernel_rfl) (by kernel_rfl) (by kernel_rfl) (ldV_pair (j := u) (by kernel_rfl) (by kernel_rfl) (by omega) (by omega))) <|
      .a 3 2 <| .nil _ _) ?_
    refine aw_p 15863 (
      .a 2 3 <|
      .p (does_val (v' := .slice (some ⟨1, 0, none⟩) u 0) (does_slice (t := 24) (x := .tmp 18) (lo := none) (hi := some (.tmp 19)) (k := 1) (off := 0) (n := h.length) (c := 0) (z := 2) (l := 0) (h := ((u : Nat) : Int)) (m := u) (b := ⟨(h.flatMap ptc), 29, true, 2⟩) (by kernel_rfl) (by kernel_rfl) (by kernel_rfl) (by kernel_rfl) (by kernel_rfl) (by kernel_rfl) (by kernel_rfl) (by kernel_rfl) (by omega) (by omega) (by omega) (by omega)) (by kernel_rfl)) <|
      .a 2 3 <| .nil _ _) ?_
    refine aw_bl 2 31727 ?_
    refine aw_lp 63455 ?_
    refine al_w [(2, .int .i64 0), (3, .int .i64 m), (4, .slice (some ⟨1, 0, none⟩) h.length 0), (5, .int .i64 ((u : Nat) : Int)), (6, .pointer (some ⟨2, 0, none⟩)), (11, .slice (some ⟨1, 0, none⟩) h.length 0), (12, .int .i64 ((h.length : Nat) : Int)), (13, .int .i64 ((u : Nat) : Int)), (20, .slice (some ⟨1, 0, none⟩) u 0), (21, .int .i64 ((u : Nat) : Int)), (22, .int .i64 ((0 : Nat) : Int))] [(0, ⟨(ps.flatMap ptc), 29, false, 2⟩), (1, ⟨(h.flatMap ptc), 29, true, 2⟩), (2, ⟨[.int .i64 ((h.getD u (0, 0)).1), .int .i64 ((h.getD u (0, 0)).2)], 29, true, 2⟩)] ?_ (hc := (by simp [closedB, valsB, valB, List.all_eq_true, List.mem_flatMap, List.mem_range, List.mem_map, i64v, ptc, flat1]; try (intros; simp [valsB, valB, flat1]); try decide))
    refine al_ind (fun i : Nat × Int => (fun (k : Nat) (m2 : Int) => mkSt 1 [(2, .int .i64 0), (3, .int .i64 m2), (4, .slice (some ⟨1, 0, none⟩) h.length 0), (5, .int .i64 ((u : Nat) : Int)), (6, .pointer (some ⟨2, 0, none⟩)), (11, .slice (some ⟨1, 0, none⟩) h.length 0), (12, .int .i64 ((h.length : Nat) : Int)), (13, .int .i64 ((u : Nat) : Int)), (20, .slice (some ⟨1, 0, none⟩) u 0), (21, .int .i64 ((u : Nat) : Int)), (22, .int .i64 ((k : Nat) : Int))] [(0, ⟨(ps.flatMap ptc), 29, false, 2⟩), (1, ⟨(h.flatMap ptc), 29, true, 2⟩), (2, ⟨[.int .i64 ((h.getD u (0, 0)).1), .int .i64 ((h.getD u (0, 0)).2)], 29, true, 2⟩)]) i.1 i.2) (fun i : Nat × Int => (fun (k : Nat) (m2 : Int) => (k ≤ u) ∧ (Sp.farI h u k m2 = Sp.farI h u 0 m)) i.1 i.2) (fun i : Nat × Int => (fun (k : Nat) (m2 : Int) => u - k) i.1 i.2) (fun i hi2 ih2 => ?_) (0, m) (show (0 ≤ u) ∧ (Sp.farI h u 0 m = Sp.farI h u 0 m) from ⟨by omega, by rfl⟩)
    obtain ⟨k, m2⟩ := i
    have hi2' : (k ≤ u) ∧ (Sp.farI h u k m2 = Sp.farI h u 0 m) := hi2
    obtain ⟨hk, hk2⟩ := hi2'
    show AL _ _ _ (mkSt 1 [(2, .int .i64 0), (3, .int .i64 m2), (4, .slice (some ⟨1, 0, none⟩) h.length 0), (5, .int .i64 ((u : Nat) : Int)), (6, .pointer (some ⟨2, 0, none⟩)), (11, .slice (some ⟨1, 0, none⟩) h.length 0), (12, .int .i64 ((h.length : Nat) : Int)), (13, .int .i64 ((u : Nat) : Int)), (20, .slice (some ⟨1, 0, none⟩) u 0), (21, .int .i64 ((u : Nat) : Int)), (22, .int .i64 ((k : Nat) : Int))] [(0, ⟨(ps.flatMap ptc), 29, false, 2⟩), (1, ⟨(h.flatMap ptc), 29, true, 2⟩), (2, ⟨[.int .i64 ((h.getD u (0, 0)).1), .int .i64 ((h.getD u (0, 0)).2)], 29, true, 2⟩)]) _
    have fk := hfh k; have fu := hfh u
    refine al_round ?_
    refine aw_p 126911 (
      .a 1 3 <| .nil _ _) ?_
    refine aw_sq 253822 253823 ?_
    refine aw_cd 507644 507645 (decide (((k : Nat) : Int) < ((u : Nat) : Int))) (fun h2 => ?_) (fun h2 => ?_)
    · have h2p : ((((k : Nat) : Int) < ((u : Nat) : Int))) := by first | (simpa using h2) | (have h2q := h2; simp at h2q; omega) | (have h2q := bx1 h2; simp at h2q; omega)
      have hku : k < u := by omega
      refine aw_sk ?_
      refine then_normal ?_
      refine aw_sq 507646 507647 ?_
      refine aw_bl 3 1015293 ?_
      refine aw_p 2030587 (
        .p (does_indexSlice (t := 24) (x := .tmp 20) (y := .tmp 22) (k := 1) (off := 0) (n := u) (c := 0) (z := 2) (kd := .i64) (j := ((k : Nat) : Int)) (by kernel_rfl) (by kernel_rfl) (by kernel_rfl) (by kernel_rfl) (by kernel_rfl) (by omega) (by omega)) <|
        .p (does_load (t := 29) (x := .tmp 24) (k := 1) (off := (0 + (((k : Nat) : Int)).toNat * 2)) (b := ⟨(h.flatMap ptc), 29, true, 2⟩) (v := .agg #[.int .i64 ((h.getD k (0, 0)).1), .int .i64 ((h.getD k (0, 0)).2)]) (by kernel_rfl) (by kernel_rfl) (by kernel_rfl) (ldV_pair (j := k) (by kernel_rfl) (by kernel_rfl) (by omega) (by omega))) <|
        .a 2 3 <| .nil _ _) ?_
      refine aw_p1 (
        .a 3 4 <| .p (does_c (sq_in ((h.getD u (0, 0)).1) ((h.getD u (0, 0)).2) ((h.getD k (0, 0)).1) ((h.getD k (0, 0)).2) (by omega) (by omega) (by omega) (by omega) (by omega) (by omega) (by omega) (by omega))) <| .a 2 4 <| .nil _ _) ?_
      refine block_normal ?_
      refine then_normal ?_
      refine aw_p1 (
        .p (does_i (((k : Nat) : Int) + 1) (wrap_i64 (by omega) (by omega)) .i64) <| .a 1 4 <| .nil _ _) ?_
      refine then_normal ?_
      refine al_w [(2, .int .i64 0), (3, .int .i64 (Sp.mx m2 (Sp.dot ((h.getD u (0, 0)).1) ((h.getD u (0, 0)).2) ((h.getD k (0, 0)).1) ((h.getD k (0, 0)).2) ((h.getD k (0, 0)).1) ((h.getD k (0, 0)).2)))), (4, .slice (some ⟨1, 0, none⟩) h.length 0), (5, .int .i64 ((u : Nat) : Int)), (6, .pointer (some ⟨2, 0, none⟩)), (11, .slice (some ⟨1, 0, none⟩) h.length 0), (12, .int .i64 ((h.length : Nat) : Int)), (13, .int .i64 ((u : Nat) : Int)), (20, .slice (some ⟨1, 0, none⟩) u 0), (21, .int .i64 ((u : Nat) : Int)), (22, .int .i64 (((k + 1) : Nat) : Int))] [(0, ⟨(ps.flatMap ptc), 29, false, 2⟩), (1, ⟨(h.flatMap ptc), 29, true, 2⟩), (2, ⟨[.int .i64 ((h.getD u (0, 0)).1), .int .i64 ((h.getD u (0, 0)).2)], 29, true, 2⟩)] ?_ (hc := (by simp [closedB, valsB, valB, List.all_eq_true, List.mem_flatMap, List.mem_range, List.mem_map, i64v, ptc, flat1]; try (intros; simp [valsB, valB, flat1]); try decide))
      exact ih2 ((k + 1), (Sp.mx m2 (Sp.dot ((h.getD u (0, 0)).1) ((h.getD u (0, 0)).2) ((h.getD k (0, 0)).1) ((h.getD k (0, 0)).2) ((h.getD k (0, 0)).1) ((h.getD k (0, 0)).2)))) (show ((k + 1) ≤ u) ∧ (Sp.farI h u (k + 1) (Sp.mx m2 (Sp.dot ((h.getD u (0, 0)).1) ((h.getD u (0, 0)).2) ((h.getD k (0, 0)).1) ((h.getD k (0, 0)).2) ((h.getD k (0, 0)).1) ((h.getD k (0, 0)).2))) = Sp.farI h u 0 m) from ⟨by omega, by (rw [← hk2]; exact Sp.farI_go hku)⟩) (show u - (k + 1) < u - k from by omega)
    · have h2p : ¬ ((((k : Nat) : Int) < ((u : Nat) : Int))) := by first | (simpa using h2) | (have h2q := h2; simp at h2q; omega) | (have h2q := bx2 h2; simp at h2q; omega)
      have hke : ¬ k < u := by omega
      refine aw_ex 2 ?_
      refine then_exit ?_
      refine then_exit ?_
      refine block_exit ?_
      refine block_normal ?_
      refine then_normal ?_
      refine aw_p1 (
        .p (does_i (((u : Nat) : Int) + 1) (wrap_i64 (by omega) (by omega)) .i64) <| .a 1 3 <| .nil _ _) ?_
      refine then_normal ?_
      refine al_w [(2, .int .i64 0), (3, .int .i64 m2), (4, .slice (some ⟨1, 0, none⟩) h.length 0), (11, .slice (some ⟨1, 0, none⟩) h.length 0), (12, .int .i64 ((h.length : Nat) : Int)), (13, .int .i64 (((u + 1) : Nat) : Int))] [(0, ⟨(ps.flatMap ptc), 29, false, 2⟩), (1, ⟨(h.flatMap ptc), 29, true, 2⟩)] ?_ (hc := (by simp [closedB, valsB, valB, List.all_eq_true, List.mem_flatMap, List.mem_range, List.mem_map, i64v, ptc, flat1]; try (intros; simp [valsB, valB, flat1]); try decide))
      exact ih1 ((u + 1), m2) (show ((u + 1) ≤ h.length) ∧ (Sp.farF h (u + 1) m2 = Sp.farF h 0 0) from ⟨by omega, by (rw [← hs]; exact Sp.farF_next hul hke hk2)⟩) (show h.length - (u + 1) < h.length - u from by omega)
  · have h1p : ¬ ((((u : Nat) : Int) < ((h.length : Nat) : Int))) := by first | (simpa using h1) | (have h1q := h1; simp at h1q; omega) | (have h1q := bx2 h1; simp at h1q; omega)
    have hge : ¬ u < h.length := by omega
    refine aw_ex 0 ?_
    refine then_exit ?_
    refine then_exit ?_
    refine block_exit ?_
    refine then_normal ?_
    refine aw_p 63 (
      .a 2 2 <| .nil _ _) ?_
    refine aw_rt ?_
    exact en_ret [.int .i64 m] (show (.int .i64 m : Value) = (.int .i64 (Sp.farF h 0 0)) from (congrArg (Value.int .i64) (show m = (Sp.farF h 0 0) from by (exact (by rw [← hs, Sp.farF_end hge])))))

theorem hullfar_own (ps h : List (Int × Int)) (hh : Sp.hullF (ps.map Sp.lmP) = h) (h1 : 1 ≤ ps.length) (hz : ps.length ≤ 8796093021952) (hhl : h.length ≤ 17592186043904) (hfh : Sp.Few 1048576 h) :
    AC Try.prog 37 1 ([.slice (some ⟨0, 0, none⟩) ps.length 0]) [(0, ⟨(ps.flatMap ptc), 29, true, 2⟩)] (.int .i64 (Sp.farF h 0 0)) [(0, ⟨(ps.flatMap ptc), 29, true, 2⟩)] := by
  refine ac_in Try.func37 (fun w0 W pin => ?_)
  refine aw_p 3 (
    .a 1 1 <| .nil _ _) ?_
  refine aw_p 7 (
    .a 1 1 <| .nil _ _) ?_
  refine aw_p 15 (
    .a 1 1 <|
    .p (does_callB (x := .func 36) (ars := #[.tmp 9]) (ats := #[24]) (g := 36) (vs := [.slice (some ⟨0, 0, none⟩) ps.length 0]) (m := 1) (r := 1) (firsts := #[]) (caps := #[]) (args0 := [.slice (some ⟨0, 0, none⟩) ps.length 0]) (pre0 := [(0, ⟨(ps.flatMap ptc), 29, true, 2⟩)]) (post0 := [(0, ⟨(ps.flatMap ptc), 29, true, 2⟩), (1, ⟨(h.flatMap ptc), 29, true, 2⟩)]) (pre := [(0, ⟨(ps.flatMap ptc), 29, true, 2⟩)]) (post := [(0, ⟨(ps.flatMap ptc), 29, true, 2⟩), (1, ⟨(h.flatMap ptc), 29, true, 2⟩)]) (v0 := .slice (some ⟨1, 0, none⟩) h.length 0) (v := .slice (some ⟨1, 0, none⟩) h.length 0) [0, 1] (by kernel_rfl) (by kernel_rfl) (by kernel_rfl) (by kernel_rfl) (hull_own ps h hh h1 hz) (.cons (.slice _ _ _ _ _ (by decide)) .nil) ⟨rfl, ⟨rfl, rfl, rfl, (.flats (flats_pair _))⟩, trivial⟩ (by kernel_rfl) (by kernel_rfl) (by kernel_rfl) ⟨rfl, ⟨rfl, rfl, rfl, (.flats (flats_pair _))⟩, rfl, ⟨rfl, rfl, rfl, (.flats (flats_pair _))⟩, trivial⟩ (.slice _ _ _ _ _ (by decide))) <|
    .a 1 2 <| .nil _ _) ?_
  refine aw_sq 30 31 ?_
  refine aw_p 61 (
    .a 3 2 <| .nil _ _) ?_
  refine aw_bl 0 123 ?_
  refine aw_lp 247 ?_
  refine al_w [(2, .int .i64 0), (3, .int .i64 0), (4, .slice (some ⟨1, 0, none⟩) h.length 0), (11, .slice (some ⟨1, 0, none⟩) h.length 0), (12, .int .i64 ((h.length : Nat) : Int)), (13, .int .i64 ((0 : Nat) : Int))] [(0, ⟨(ps.flatMap ptc), 29, true, 2⟩), (1, ⟨(h.flatMap ptc), 29, true, 2⟩)] ?_ (hc := (by simp [closedB, valsB, valB, List.all_eq_true, List.mem_flatMap, List.mem_range, List.mem_map, i64v, ptc, flat1]; try (intros; simp [valsB, valB, flat1]); try decide))
  refine al_ind (fun i : Nat × Int => (fun (u : Nat) (m : Int) => mkSt 1 [(2, .int .i64 0), (3, .int .i64 m), (4, .slice (some ⟨1, 0, none⟩) h.length 0), (11, .slice (some ⟨1, 0, none⟩) h.length 0), (12, .int .i64 ((h.length : Nat) : Int)), (13, .int .i64 ((u : Nat) : Int))] [(0, ⟨(ps.flatMap ptc), 29, true, 2⟩), (1, ⟨(h.flatMap ptc), 29, true, 2⟩)]) i.1 i.2) (fun i : Nat × Int => (fun (u : Nat) (m : Int) => (u ≤ h.length) ∧ (Sp.farF h u m = Sp.farF h 0 0)) i.1 i.2) (fun i : Nat × Int => (fun (u : Nat) (m : Int) => h.length - u) i.1 i.2) (fun i hi1 ih1 => ?_) (0, 0) (show (0 ≤ h.length) ∧ (Sp.farF h 0 0 = Sp.farF h 0 0) from ⟨by omega, by rfl⟩)
  obtain ⟨u, m⟩ := i
  have hi1' : (u ≤ h.length) ∧ (Sp.farF h u m = Sp.farF h 0 0) := hi1
  obtain ⟨hi, hs⟩ := hi1'
  show AL _ _ _ (mkSt 1 [(2, .int .i64 0), (3, .int .i64 m), (4, .slice (some ⟨1, 0, none⟩) h.length 0), (11, .slice (some ⟨1, 0, none⟩) h.length 0), (12, .int .i64 ((h.length : Nat) : Int)), (13, .int .i64 ((u : Nat) : Int))] [(0, ⟨(ps.flatMap ptc), 29, true, 2⟩), (1, ⟨(h.flatMap ptc), 29, true, 2⟩)]) _
  refine al_round ?_
  refine aw_p 495 (
    .a 1 2 <| .nil _ _) ?_
  refine aw_sq 990 991 ?_
  refine aw_cd 1980 1981 (decide (((u : Nat) : Int) < ((h.length : Nat) : Int))) (fun h1 => ?_) (fun h1 => ?_)
  · have h1p : ((((u : Nat) : Int) < ((h.length : Nat) : Int))) := by first | (simpa using h1) | (have h1q := h1; simp at h1q; omega) | (have h1q := bx1 h1; simp at h1q; omega)
    have hul : u < h.length := by omega
    refine aw_sk ?_
    refine then_normal ?_
    refine aw_sq 1982 1983 ?_
    refine aw_bl 1 3965 ?_
    refine aw_p 7931 (
      .a 1 2 <| .p (does_indexSlice (t := 24) (x := .tmp 11) (y := .tmp 13) (k := 1) (off := 0) (n := h.length) (c := 0) (z := 2) (kd := .i64) (j := ((u : Nat) : Int)) (by kernel_rfl) (by kernel_rfl) (by kernel_rfl) (by kernel_rfl) (by kernel_rfl) (by omega) (by omega)) <|
      .p (does_load (t := 29) (x := .tmp 16) (k := 1) (off := (0 + (((u : Nat) : Int)).toNat * 2)) (b := ⟨(h.flatMap ptc), 29, true, 2⟩) (v := .agg #[.int .i64 ((h.getD u (0, 0)).1), .int .i64 ((h.getD u (0, 0)).2)]) (by kernel_rfl) (by kernel_rfl) (by kernel_rfl) (ldV_pair (j := u) (by kernel_rfl) (by kernel_rfl) (by omega) (by omega))) <|
      .a 3 2 <| .nil _ _) ?_
    refine aw_p 15863 (
      .a 2 3 <|
      .p (does_val (v' := .slice (some ⟨1, 0, none⟩) u 0) (does_slice (t := 24) (x := .tmp 18) (lo := none) (hi := some (.tmp 19)) (k := 1) (off := 0) (n := h.length) (c := 0) (z := 2) (l := 0) (h := ((u : Nat) : Int)) (m := u) (b := ⟨(h.flatMap ptc), 29, true, 2⟩) (by kernel_rfl) (by kernel_rfl) (by kernel_rfl) (by kernel_rfl) (by kernel_rfl) (by kernel_rfl) (by kernel_rfl) (by kernel_rfl) (by omega) (by omega) (by omega) (by omega)) (by kernel_rfl)) <|
      .a 2 3 <| .nil _ _) ?_
    refine aw_bl 2 31727 ?_
    refine aw_lp 63455 ?_
    refine al_w [(2, .int .i64 0), (3, .int .i64 m), (4, .slice (some ⟨1, 0, none⟩) h.length 0), (5, .int .i64 ((u : Nat) : Int)), (6, .pointer (some ⟨2, 0, none⟩)), (11, .slice (some ⟨1, 0, none⟩) h.length 0), (12, .int .i64 ((h.length : Nat) : Int)), (13, .int .i64 ((u : Nat) : Int)), (20, .slice (some ⟨1, 0, none⟩) u 0), (21, .int .i64 ((u : Nat) : Int)), (22, .int .i64 ((0 : Nat) : Int))] [(0, ⟨(ps.flatMap ptc), 29, true, 2⟩), (1, ⟨(h.flatMap ptc), 29, true, 2⟩), (2, ⟨[.int .i64 ((h.getD u (0, 0)).1), .int .i64 ((h.getD u (0, 0)).2)], 29, true, 2⟩)] ?_ (hc := (by simp [closedB, valsB, valB, List.all_eq_true, List.mem_flatMap, List.mem_range, List.mem_map, i64v, ptc, flat1]; try (intros; simp [valsB, valB, flat1]); try decide))
    refine al_ind (fun i : Nat × Int => (fun (k : Nat) (m2 : Int) => mkSt 1 [(2, .int .i64 0), (3, .int .i64 m2), (4, .slice (some ⟨1, 0, none⟩) h.length 0), (5, .int .i64 ((u : Nat) : Int)), (6, .pointer (some ⟨2, 0, none⟩)), (11, .slice (some ⟨1, 0, none⟩) h.length 0), (12, .int .i64 ((h.length : Nat) : Int)), (13, .int .i64 ((u : Nat) : Int)), (20, .slice (some ⟨1, 0, none⟩) u 0), (21, .int .i64 ((u : Nat) : Int)), (22, .int .i64 ((k : Nat) : Int))] [(0, ⟨(ps.flatMap ptc), 29, true, 2⟩), (1, ⟨(h.flatMap ptc), 29, true, 2⟩), (2, ⟨[.int .i64 ((h.getD u (0, 0)).1), .int .i64 ((h.getD u (0, 0)).2)], 29, true, 2⟩)]) i.1 i.2) (fun i : Nat × Int => (fun (k : Nat) (m2 : Int) => (k ≤ u) ∧ (Sp.farI h u k m2 = Sp.farI h u 0 m)) i.1 i.2) (fun i : Nat × Int => (fun (k : Nat) (m2 : Int) => u - k) i.1 i.2) (fun i hi2 ih2 => ?_) (0, m) (show (0 ≤ u) ∧ (Sp.farI h u 0 m = Sp.farI h u 0 m) from ⟨by omega, by rfl⟩)
    obtain ⟨k, m2⟩ := i
    have hi2' : (k ≤ u) ∧ (Sp.farI h u k m2 = Sp.farI h u 0 m) := hi2
    obtain ⟨hk, hk2⟩ := hi2'
    show AL _ _ _ (mkSt 1 [(2, .int .i64 0), (3, .int .i64 m2), (4, .slice (some ⟨1, 0, none⟩) h.length 0), (5, .int .i64 ((u : Nat) : Int)), (6, .pointer (some ⟨2, 0, none⟩)), (11, .slice (some ⟨1, 0, none⟩) h.length 0), (12, .int .i64 ((h.length : Nat) : Int)), (13, .int .i64 ((u : Nat) : Int)), (20, .slice (some ⟨1, 0, none⟩) u 0), (21, .int .i64 ((u : Nat) : Int)), (22, .int .i64 ((k : Nat) : Int))] [(0, ⟨(ps.flatMap ptc), 29, true, 2⟩), (1, ⟨(h.flatMap ptc), 29, true, 2⟩), (2, ⟨[.int .i64 ((h.getD u (0, 0)).1), .int .i64 ((h.getD u (0, 0)).2)], 29, true, 2⟩)]) _
    have fk := hfh k; have fu := hfh u
    refine al_round ?_
    refine aw_p 126911 (
      .a 1 3 <| .nil _ _) ?_
    refine aw_sq 253822 253823 ?_
    refine aw_cd 507644 507645 (decide (((k : Nat) : Int) < ((u : Nat) : Int))) (fun h2 => ?_) (fun h2 => ?_)
    · have h2p : ((((k : Nat) : Int) < ((u : Nat) : Int))) := by first | (simpa using h2) | (have h2q := h2; simp at h2q; omega) | (have h2q := bx1 h2; simp at h2q; omega)
      have hku : k < u := by omega
      refine aw_sk ?_
      refine then_normal ?_
      refine aw_sq 507646 507647 ?_
      refine aw_bl 3 1015293 ?_
      refine aw_p 2030587 (
        .p (does_indexSlice (t := 24) (x := .tmp 20) (y := .tmp 22) (k := 1) (off := 0) (n := u) (c := 0) (z := 2) (kd := .i64) (j := ((k : Nat) : Int)) (by kernel_rfl) (by kernel_rfl) (by kernel_rfl) (by kernel_rfl) (by kernel_rfl) (by omega) (by omega)) <|
        .p (does_load (t := 29) (x := .tmp 24) (k := 1) (off := (0 + (((k : Nat) : Int)).toNat * 2)) (b := ⟨(h.flatMap ptc), 29, true, 2⟩) (v := .agg #[.int .i64 ((h.getD k (0, 0)).1), .int .i64 ((h.getD k (0, 0)).2)]) (by kernel_rfl) (by kernel_rfl) (by kernel_rfl) (ldV_pair (j := k) (by kernel_rfl) (by kernel_rfl) (by omega) (by omega))) <|
        .a 2 3 <| .nil _ _) ?_
      refine aw_p1 (
        .a 3 4 <| .p (does_c (sq_in ((h.getD u (0, 0)).1) ((h.getD u (0, 0)).2) ((h.getD k (0, 0)).1) ((h.getD k (0, 0)).2) (by omega) (by omega) (by omega) (by omega) (by omega) (by omega) (by omega) (by omega))) <| .a 2 4 <| .nil _ _) ?_
      refine block_normal ?_
      refine then_normal ?_
      refine aw_p1 (
        .p (does_i (((k : Nat) : Int) + 1) (wrap_i64 (by omega) (by omega)) .i64) <| .a 1 4 <| .nil _ _) ?_
      refine then_normal ?_
      refine al_w [(2, .int .i64 0), (3, .int .i64 (Sp.mx m2 (Sp.dot ((h.getD u (0, 0)).1) ((h.getD u (0, 0)).2) ((h.getD k (0, 0)).1) ((h.getD k (0, 0)).2) ((h.getD k (0, 0)).1) ((h.getD k (0, 0)).2)))), (4, .slice (some ⟨1, 0, none⟩) h.length 0), (5, .int .i64 ((u : Nat) : Int)), (6, .pointer (some ⟨2, 0, none⟩)), (11, .slice (some ⟨1, 0, none⟩) h.length 0), (12, .int .i64 ((h.length : Nat) : Int)), (13, .int .i64 ((u : Nat) : Int)), (20, .slice (some ⟨1, 0, none⟩) u 0), (21, .int .i64 ((u : Nat) : Int)), (22, .int .i64 (((k + 1) : Nat) : Int))] [(0, ⟨(ps.flatMap ptc), 29, true, 2⟩), (1, ⟨(h.flatMap ptc), 29, true, 2⟩), (2, ⟨[.int .i64 ((h.getD u (0, 0)).1), .int .i64 ((h.getD u (0, 0)).2)], 29, true, 2⟩)] ?_ (hc := (by simp [closedB, valsB, valB, List.all_eq_true, List.mem_flatMap, List.mem_range, List.mem_map, i64v, ptc, flat1]; try (intros; simp [valsB, valB, flat1]); try decide))
      exact ih2 ((k + 1), (Sp.mx m2 (Sp.dot ((h.getD u (0, 0)).1) ((h.getD u (0, 0)).2) ((h.getD k (0, 0)).1) ((h.getD k (0, 0)).2) ((h.getD k (0, 0)).1) ((h.getD k (0, 0)).2)))) (show ((k + 1) ≤ u) ∧ (Sp.farI h u (k + 1) (Sp.mx m2 (Sp.dot ((h.getD u (0, 0)).1) ((h.getD u (0, 0)).2) ((h.getD k (0, 0)).1) ((h.getD k (0, 0)).2) ((h.getD k (0, 0)).1) ((h.getD k (0, 0)).2))) = Sp.farI h u 0 m) from ⟨by omega, by (rw [← hk2]; exact Sp.farI_go hku)⟩) (show u - (k + 1) < u - k from by omega)
    · have h2p : ¬ ((((k : Nat) : Int) < ((u : Nat) : Int))) := by first | (simpa using h2) | (have h2q := h2; simp at h2q; omega) | (have h2q := bx2 h2; simp at h2q; omega)
      have hke : ¬ k < u := by omega
      refine aw_ex 2 ?_
      refine then_exit ?_
      refine then_exit ?_
      refine block_exit ?_
      refine block_normal ?_
      refine then_normal ?_
      refine aw_p1 (
        .p (does_i (((u : Nat) : Int) + 1) (wrap_i64 (by omega) (by omega)) .i64) <| .a 1 3 <| .nil _ _) ?_
      refine then_normal ?_
      refine al_w [(2, .int .i64 0), (3, .int .i64 m2), (4, .slice (some ⟨1, 0, none⟩) h.length 0), (11, .slice (some ⟨1, 0, none⟩) h.length 0), (12, .int .i64 ((h.length : Nat) : Int)), (13, .int .i64 (((u + 1) : Nat) : Int))] [(0, ⟨(ps.flatMap ptc), 29, true, 2⟩), (1, ⟨(h.flatMap ptc), 29, true, 2⟩)] ?_ (hc := (by simp [closedB, valsB, valB, List.all_eq_true, List.mem_flatMap, List.mem_range, List.mem_map, i64v, ptc, flat1]; try (intros; simp [valsB, valB, flat1]); try decide))
      exact ih1 ((u + 1), m2) (show ((u + 1) ≤ h.length) ∧ (Sp.farF h (u + 1) m2 = Sp.farF h 0 0) from ⟨by omega, by (rw [← hs]; exact Sp.farF_next hul hke hk2)⟩) (show h.length - (u + 1) < h.length - u from by omega)
  · have h1p : ¬ ((((u : Nat) : Int) < ((h.length : Nat) : Int))) := by first | (simpa using h1) | (have h1q := h1; simp at h1q; omega) | (have h1q := bx2 h1; simp at h1q; omega)
    have hge : ¬ u < h.length := by omega
    refine aw_ex 0 ?_
    refine then_exit ?_
    refine then_exit ?_
    refine block_exit ?_
    refine then_normal ?_
    refine aw_p 63 (
      .a 2 2 <| .nil _ _) ?_
    refine aw_rt ?_
    exact en_ret [.int .i64 m] (show (.int .i64 m : Value) = (.int .i64 (Sp.farF h 0 0)) from (congrArg (Value.int .i64) (show m = (Sp.farF h 0 0) from by (exact (by rw [← hs, Sp.farF_end hge])))))


end Go.Proofs.Ytadifmimefmcnaa.Am
