/-
  The walk of two rings that do not cross.
-/
import Derived.Test.YtndkhgfecnbmnaaProg
import Derived.Test.YtndkhgfecnbmnaaAm16
import Derived.Test.YtndkhgfecnbmnaaZ2
namespace Go.Proofs.Ytndkhgfecnbmnaa.Am
open Go Go.Proofs
set_option maxRecDepth 100000
set_option maxHeartbeats 4000000
set_option linter.unusedVariables false
set_option linter.unusedSimpArgs false

theorem fits_ok (ps qs : List (Int × Int)) (v w : Int) (zps : 1 ≤ ps.length ∧ ps.length ≤ 200) (fps : Sp.Few 1000 ps) (zqs : 1 ≤ qs.length ∧ qs.length ≤ 200) (fqs : Sp.Few 1000 qs) (hF : Sp.Fit ps qs v w) :
    AC Try.prog 60 2 ([.slice (some ⟨0, 0, none⟩) ps.length 0, .slice (some ⟨1, 0, none⟩) qs.length 0]) [(0, ⟨(ps.flatMap ptc), 28, true, 2⟩), (1, ⟨(qs.flatMap ptc), 28, true, 2⟩)] (.bool true) [(0, ⟨(ps.flatMap ptc), 28, true, 2⟩), (1, ⟨(qs.flatMap ptc), 28, true, 2⟩)] := by
  refine ac_in Try.func60 (fun w0 W pin => ?_)
  refine aw_p 3 (
    .a 1 2 <| .nil _ _) ?_
  refine aw_sq 6 7 ?_
  refine aw_p 13 (
    .a 3 2 <| .nil _ _) ?_
  refine aw_bl 0 27 ?_
  refine aw_lp 55 ?_
  refine al_w [(0, .slice (some ⟨0, 0, none⟩) ps.length 0), (1, .slice (some ⟨1, 0, none⟩) qs.length 0), (7, .slice (some ⟨0, 0, none⟩) ps.length 0), (8, .int .i64 ((ps.length : Nat) : Int)), (9, .int .i64 ((0 : Nat) : Int))] [(0, ⟨(ps.flatMap ptc), 28, true, 2⟩), (1, ⟨(qs.flatMap ptc), 28, true, 2⟩)] ?_ (hc := (by simp [closedB, valsB, valB, List.all_eq_true, List.mem_flatMap, List.mem_range, List.mem_map, i64v, ptc, flat1]; try (intros; simp [valsB, valB, flat1]); try decide))
  refine al_ind (fun i : Nat => (fun (u : Nat) => mkSt 2 [(0, .slice (some ⟨0, 0, none⟩) ps.length 0), (1, .slice (some ⟨1, 0, none⟩) qs.length 0), (7, .slice (some ⟨0, 0, none⟩) ps.length 0), (8, .int .i64 ((ps.length : Nat) : Int)), (9, .int .i64 ((u : Nat) : Int))] [(0, ⟨(ps.flatMap ptc), 28, true, 2⟩), (1, ⟨(qs.flatMap ptc), 28, true, 2⟩)]) i) (fun i : Nat => (fun (u : Nat) => (u ≤ ps.length)) i) (fun i : Nat => (fun (u : Nat) => ps.length - u) i) (fun i hi1 ih1 => ?_) 0 (show (0 ≤ ps.length) from by omega)
  obtain ⟨u, hv1⟩ : ∃ z, z = i := ⟨i, rfl⟩; subst hv1
  have hi1' : (u ≤ ps.length) := hi1
  have hu : u ≤ ps.length := hi1'
  show AL _ _ _ (mkSt 2 [(0, .slice (some ⟨0, 0, none⟩) ps.length 0), (1, .slice (some ⟨1, 0, none⟩) qs.length 0), (7, .slice (some ⟨0, 0, none⟩) ps.length 0), (8, .int .i64 ((ps.length : Nat) : Int)), (9, .int .i64 ((u : Nat) : Int))] [(0, ⟨(ps.flatMap ptc), 28, true, 2⟩), (1, ⟨(qs.flatMap ptc), 28, true, 2⟩)]) _
  refine al_round ?_
  refine aw_p 111 (
    .a 1 2 <| .nil _ _) ?_
  refine aw_sq 222 223 ?_
  refine aw_cd 444 445 (decide (((u : Nat) : Int) < ((ps.length : Nat) : Int))) (fun h1 => ?_) (fun h1 => ?_)
  · have h1p : ((((u : Nat) : Int) < ((ps.length : Nat) : Int))) := by first | (simpa using h1) | (have h1q := h1; simp at h1q; omega) | (have h1q := bx1 h1; simp at h1q; omega)
    have hul : u < ps.length := (by omega); obtain ⟨u2, hu2⟩ : ∃ j, (u + 1) % ps.length = j := ⟨_, rfl⟩; have hu2l : u2 < ps.length := hu2 ▸ Nat.mod_lt _ (by omega)
    refine aw_sk ?_
    refine then_normal ?_
    refine aw_sq 446 447 ?_
    refine aw_bl 1 893 ?_
    refine aw_p 1787 (
      .a 2 2 <| .nil _ _) ?_
    refine aw_p 3575 (
      .a 3 2 <| .nil _ _) ?_
    refine aw_bl 2 7151 ?_
    refine aw_lp 14303 ?_
    refine al_w [(0, .slice (some ⟨0, 0, none⟩) ps.length 0), (1, .slice (some ⟨1, 0, none⟩) qs.length 0), (5, .int .i64 ((u : Nat) : Int)), (7, .slice (some ⟨0, 0, none⟩) ps.length 0), (8, .int .i64 ((ps.length : Nat) : Int)), (9, .int .i64 ((u : Nat) : Int)), (12, .slice (some ⟨1, 0, none⟩) qs.length 0), (13, .int .i64 ((qs.length : Nat) : Int)), (14, .int .i64 ((0 : Nat) : Int))] [(0, ⟨(ps.flatMap ptc), 28, true, 2⟩), (1, ⟨(qs.flatMap ptc), 28, true, 2⟩)] ?_ (hc := (by simp [closedB, valsB, valB, List.all_eq_true, List.mem_flatMap, List.mem_range, List.mem_map, i64v, ptc, flat1]; try (intros; simp [valsB, valB, flat1]); try decide))
    refine al_ind (fun i : Nat => (fun (k : Nat) => mkSt 2 [(0, .slice (some ⟨0, 0, none⟩) ps.length 0), (1, .slice (some ⟨1, 0, none⟩) qs.length 0), (5, .int .i64 ((u : Nat) : Int)), (7, .slice (some ⟨0, 0, none⟩) ps.length 0), (8, .int .i64 ((ps.length : Nat) : Int)), (9, .int .i64 ((u : Nat) : Int)), (12, .slice (some ⟨1, 0, none⟩) qs.length 0), (13, .int .i64 ((qs.length : Nat) : Int)), (14, .int .i64 ((k : Nat) : Int))] [(0, ⟨(ps.flatMap ptc), 28, true, 2⟩), (1, ⟨(qs.flatMap ptc), 28, true, 2⟩)]) i) (fun i : Nat => (fun (k : Nat) => (k ≤ qs.length)) i) (fun i : Nat => (fun (k : Nat) => qs.length - k) i) (fun i hi2 ih2 => ?_) 0 (show (0 ≤ qs.length) from by omega)
    obtain ⟨k, hv2⟩ : ∃ z, z = i := ⟨i, rfl⟩; subst hv2
    have hi2' : (k ≤ qs.length) := hi2
    have hk : k ≤ qs.length := hi2'
    show AL _ _ _ (mkSt 2 [(0, .slice (some ⟨0, 0, none⟩) ps.length 0), (1, .slice (some ⟨1, 0, none⟩) qs.length 0), (5, .int .i64 ((u : Nat) : Int)), (7, .slice (some ⟨0, 0, none⟩) ps.length 0), (8, .int .i64 ((ps.length : Nat) : Int)), (9, .int .i64 ((u : Nat) : Int)), (12, .slice (some ⟨1, 0, none⟩) qs.length 0), (13, .int .i64 ((qs.length : Nat) : Int)), (14, .int .i64 ((k : Nat) : Int))] [(0, ⟨(ps.flatMap ptc), 28, true, 2⟩), (1, ⟨(qs.flatMap ptc), 28, true, 2⟩)]) _
    refine al_round ?_
    refine aw_p 28607 (
      .a 1 2 <| .nil _ _) ?_
    refine aw_sq 57214 57215 ?_
    refine aw_cd 114428 114429 (decide (((k : Nat) : Int) < ((qs.length : Nat) : Int))) (fun h2 => ?_) (fun h2 => ?_)
    · have h2p : ((((k : Nat) : Int) < ((qs.length : Nat) : Int))) := by first | (simpa using h2) | (have h2q := h2; simp at h2q; omega) | (have h2q := bx1 h2; simp at h2q; omega)
      have hkl : k < qs.length := (by omega); obtain ⟨k2, hk2⟩ : ∃ j, (k + 1) % qs.length = j := ⟨_, rfl⟩; have hk2l : k2 < qs.length := hk2 ▸ Nat.mod_lt _ (by omega)
      refine aw_sk ?_
      refine then_normal ?_
      refine aw_sq 114430 114431 ?_
      refine aw_bl 3 228861 ?_
      refine aw_p 457723 (
        .a 2 2 <| .nil _ _) ?_
      refine aw_d 915447 (
        .a 2 2 <| .p (does_indexSlice (t := 30) (x := .tmp 17) (y := .tmp 18) (k := 0) (off := 0) (n := ps.length) (c := 0) (z := 2) (kd := .i64) (j := ((u : Nat) : Int)) (by kernel_rfl) (by kernel_rfl) (by kernel_rfl) (by kernel_rfl) (by kernel_rfl) (by omega) (by omega)) <|
        .p (does_load (t := 28) (x := .tmp 19) (k := 0) (off := (0 + (((u : Nat) : Int)).toNat * 2)) (b := ⟨(ps.flatMap ptc), 28, true, 2⟩) (v := .agg #[.int .i64 ((ps.getD u (0, 0)).1), .int .i64 ((ps.getD u (0, 0)).2)]) (by kernel_rfl) (by kernel_rfl) (by kernel_rfl) (ldV_pair (j := u) (by kernel_rfl) (by kernel_rfl) (by omega) (by omega))) <|
        .a 2 2 <| .p (does_i (((u : Nat) : Int) + 1) (wrap_i64 (by omega) (by omega)) .i64) <| .a 2 2 <|
        .p (does_int (n' := ((u2 : Nat) : Int)) (does_rem (t := 3) (t2 := 3) (x := .tmp 23) (y := .tmp 25) (k := .i64) (a := (((u : Nat) : Int) + 1)) (b := ((ps.length : Nat) : Int)) (by kernel_rfl) (by kernel_rfl) (by kernel_rfl) (by omega)) ((show (Int.tmod (((u : Nat) : Int) + 1) ((ps.length : Nat) : Int)) = ((u2 : Nat) : Int) from (by rw [← hu2]; exact rfl)))) <|
        .p (does_indexSlice (t := 30) (x := .tmp 21) (y := .tmp 26) (k := 0) (off := 0) (n := ps.length) (c := 0) (z := 2) (kd := .i64) (j := ((u2 : Nat) : Int)) (by kernel_rfl) (by kernel_rfl) (by kernel_rfl) (by kernel_rfl) (by kernel_rfl) (by omega) (by omega)) <|
        .p (does_load (t := 28) (x := .tmp 27) (k := 0) (off := (0 + (((u2 : Nat) : Int)).toNat * 2)) (b := ⟨(ps.flatMap ptc), 28, true, 2⟩) (v := .agg #[.int .i64 ((ps.getD u2 (0, 0)).1), .int .i64 ((ps.getD u2 (0, 0)).2)]) (by kernel_rfl) (by kernel_rfl) (by kernel_rfl) (ldV_pair (j := u2) (by kernel_rfl) (by kernel_rfl) (by omega) (by omega))) <|
        .a 2 2 <| .p (does_indexSlice (t := 30) (x := .tmp 29) (y := .tmp 30) (k := 1) (off := 0) (n := qs.length) (c := 0) (z := 2) (kd := .i64) (j := ((k : Nat) : Int)) (by kernel_rfl) (by kernel_rfl) (by kernel_rfl) (by kernel_rfl) (by kernel_rfl) (by omega) (by omega)) <|
        .p (does_load (t := 28) (x := .tmp 31) (k := 1) (off := (0 + (((k : Nat) : Int)).toNat * 2)) (b := ⟨(qs.flatMap ptc), 28, true, 2⟩) (v := .agg #[.int .i64 ((qs.getD k (0, 0)).1), .int .i64 ((qs.getD k (0, 0)).2)]) (by kernel_rfl) (by kernel_rfl) (by kernel_rfl) (ldV_pair (j := k) (by kernel_rfl) (by kernel_rfl) (by omega) (by omega))) <|
        .a 2 2 <| .p (does_i (((k : Nat) : Int) + 1) (wrap_i64 (by omega) (by omega)) .i64) <| .a 2 2 <|
        .p (does_int (n' := ((k2 : Nat) : Int)) (does_rem (t := 3) (t2 := 3) (x := .tmp 35) (y := .tmp 37) (k := .i64) (a := (((k : Nat) : Int) + 1)) (b := ((qs.length : Nat) : Int)) (by kernel_rfl) (by kernel_rfl) (by kernel_rfl) (by omega)) ((show (Int.tmod (((k : Nat) : Int) + 1) ((qs.length : Nat) : Int)) = ((k2 : Nat) : Int) from (by rw [← hk2]; exact rfl)))) <|
        .p (does_indexSlice (t := 30) (x := .tmp 33) (y := .tmp 38) (k := 1) (off := 0) (n := qs.length) (c := 0) (z := 2) (kd := .i64) (j := ((k2 : Nat) : Int)) (by kernel_rfl) (by kernel_rfl) (by kernel_rfl) (by kernel_rfl) (by kernel_rfl) (by omega) (by omega)) <|
        .p (does_load (t := 28) (x := .tmp 39) (k := 1) (off := (0 + (((k2 : Nat) : Int)).toNat * 2)) (b := ⟨(qs.flatMap ptc), 28, true, 2⟩) (v := .agg #[.int .i64 ((qs.getD k2 (0, 0)).1), .int .i64 ((qs.getD k2 (0, 0)).2)]) (by kernel_rfl) (by kernel_rfl) (by kernel_rfl) (ldV_pair (j := k2) (by kernel_rfl) (by kernel_rfl) (by omega) (by omega))) <|
        .p (does_cb _ (corners_ok ((ps.getD u (0, 0)).1) ((ps.getD u (0, 0)).2) ((ps.getD u2 (0, 0)).1) ((ps.getD u2 (0, 0)).2) ((qs.getD k (0, 0)).1) ((qs.getD k (0, 0)).2) ((qs.getD k2 (0, 0)).1) ((qs.getD k2 (0, 0)).2)) true ((show (Sp.cornX ((ps.getD u (0, 0)).1) ((ps.getD u (0, 0)).2) ((ps.getD u2 (0, 0)).1) ((ps.getD u2 (0, 0)).2) ((qs.getD k (0, 0)).1) ((qs.getD k (0, 0)).2) ((qs.getD k2 (0, 0)).1) ((qs.getD k2 (0, 0)).2)) = true from (by rw [Sp.corn_at hF.1 hul hkl hu2 hk2])))) <|
        .a 1 2 <| .nil _ _) ?_
      refine aw_fl 1830895 ?_
      refine aw_sk ?_
      refine block_normal ?_
      refine then_normal ?_
      refine aw_p1 (
        .p (does_i (((k : Nat) : Int) + 1) (wrap_i64 (by omega) (by omega)) .i64) <| .a 1 2 <| .nil _ _) ?_
      refine then_normal ?_
      refine al_w [(0, .slice (some ⟨0, 0, none⟩) ps.length 0), (1, .slice (some ⟨1, 0, none⟩) qs.length 0), (5, .int .i64 ((u : Nat) : Int)), (7, .slice (some ⟨0, 0, none⟩) ps.length 0), (8, .int .i64 ((ps.length : Nat) : Int)), (9, .int .i64 ((u : Nat) : Int)), (12, .slice (some ⟨1, 0, none⟩) qs.length 0), (13, .int .i64 ((qs.length : Nat) : Int)), (14, .int .i64 (((k + 1) : Nat) : Int))] [(0, ⟨(ps.flatMap ptc), 28, true, 2⟩), (1, ⟨(qs.flatMap ptc), 28, true, 2⟩)] ?_ (hc := (by simp [closedB, valsB, valB, List.all_eq_true, List.mem_flatMap, List.mem_range, List.mem_map, i64v, ptc, flat1]; try (intros; simp [valsB, valB, flat1]); try decide))
      exact ih2 (k + 1) (show ((k + 1) ≤ qs.length) from by omega) (show qs.length - (k + 1) < qs.length - k from by omega)
    · have h2p : ¬ ((((k : Nat) : Int) < ((qs.length : Nat) : Int))) := by first | (simpa using h2) | (have h2q := h2; simp at h2q; omega) | (have h2q := bx2 h2; simp at h2q; omega)
      refine aw_ex 2 ?_
      refine then_exit ?_
      refine then_exit ?_
      refine block_exit ?_
      refine block_normal ?_
      refine then_normal ?_
      refine aw_p1 (
        .p (does_i (((u : Nat) : Int) + 1) (wrap_i64 (by omega) (by omega)) .i64) <| .a 1 2 <| .nil _ _) ?_
      refine then_normal ?_
      refine al_w [(0, .slice (some ⟨0, 0, none⟩) ps.length 0), (1, .slice (some ⟨1, 0, none⟩) qs.length 0), (7, .slice (some ⟨0, 0, none⟩) ps.length 0), (8, .int .i64 ((ps.length : Nat) : Int)), (9, .int .i64 (((u + 1) : Nat) : Int))] [(0, ⟨(ps.flatMap ptc), 28, true, 2⟩), (1, ⟨(qs.flatMap ptc), 28, true, 2⟩)] ?_ (hc := (by simp [closedB, valsB, valB, List.all_eq_true, List.mem_flatMap, List.mem_range, List.mem_map, i64v, ptc, flat1]; try (intros; simp [valsB, valB, flat1]); try decide))
      exact ih1 (u + 1) (show ((u + 1) ≤ ps.length) from by omega) (show ps.length - (u + 1) < ps.length - u from by omega)
  · have h1p : ¬ ((((u : Nat) : Int) < ((ps.length : Nat) : Int))) := by first | (simpa using h1) | (have h1q := h1; simp at h1q; omega) | (have h1q := bx2 h1; simp at h1q; omega)
    refine aw_ex 0 ?_
    refine then_exit ?_
    refine then_exit ?_
    refine block_exit ?_
    refine then_normal ?_
    refine aw_p 15 (
      .a 2 2 <|
      .p (does_callB (x := .func 99) (ars := #[.tmp 45, .tmp 46]) (ats := #[30, 30]) (g := 99) (vs := [.slice (some ⟨0, 0, none⟩) ps.length 0, .slice (some ⟨1, 0, none⟩) qs.length 0]) (m := 2) (r := 1) (firsts := #[]) (caps := #[]) (args0 := [.slice (some ⟨0, 0, none⟩) ps.length 0, .slice (some ⟨1, 0, none⟩) qs.length 0]) (pre0 := [(0, ⟨(ps.flatMap ptc), 28, true, 2⟩), (1, ⟨(qs.flatMap ptc), 28, true, 2⟩)]) (post0 := [(0, ⟨(ps.flatMap ptc), 28, true, 2⟩), (1, ⟨(qs.flatMap ptc), 28, true, 2⟩), (2, ⟨[.int .i64 v], 3, true, 1⟩)]) (pre := [(0, ⟨(ps.flatMap ptc), 28, true, 2⟩), (1, ⟨(qs.flatMap ptc), 28, true, 2⟩)]) (post := [(0, ⟨(ps.flatMap ptc), 28, true, 2⟩), (1, ⟨(qs.flatMap ptc), 28, true, 2⟩), (2, ⟨[.int .i64 v], 3, true, 1⟩)]) (v0 := .slice (some ⟨2, 0, none⟩) 1 0) (v := .slice (some ⟨2, 0, none⟩) 1 0) [0, 1, 2] (by kernel_rfl) (by kernel_rfl) (by kernel_rfl) (by kernel_rfl) (sides_ok ps qs v zps fps zqs fqs hF.2.1) (.cons (.slice _ _ _ _ _ (by decide)) (.cons (.slice _ _ _ _ _ (by decide)) .nil)) ⟨rfl, ⟨rfl, rfl, rfl, (.flats (flats_pair _))⟩, rfl, ⟨rfl, rfl, rfl, (.flats (flats_pair _))⟩, trivial⟩ (by kernel_rfl) (by kernel_rfl) (by kernel_rfl) ⟨rfl, ⟨rfl, rfl, rfl, (.flats (flats_pair _))⟩, rfl, ⟨rfl, rfl, rfl, (.flats (flats_pair _))⟩, rfl, ⟨rfl, rfl, rfl, (.flats (by kernel_rfl))⟩, trivial⟩ (.slice _ _ _ _ _ (by decide))) <|
      .a 5 3 <|
      .p (does_callB (x := .func 99) (ars := #[.tmp 51, .tmp 52]) (ats := #[30, 30]) (g := 99) (vs := [.slice (some ⟨1, 0, none⟩) qs.length 0, .slice (some ⟨0, 0, none⟩) ps.length 0]) (m := 2) (r := 1) (firsts := #[]) (caps := #[]) (args0 := [.slice (some ⟨0, 0, none⟩) qs.length 0, .slice (some ⟨1, 0, none⟩) ps.length 0]) (pre0 := [(0, ⟨(qs.flatMap ptc), 28, true, 2⟩), (1, ⟨(ps.flatMap ptc), 28, true, 2⟩)]) (post0 := [(0, ⟨(qs.flatMap ptc), 28, true, 2⟩), (1, ⟨(ps.flatMap ptc), 28, true, 2⟩), (2, ⟨[.int .i64 w], 3, true, 1⟩)]) (pre := [(1, ⟨(qs.flatMap ptc), 28, true, 2⟩), (0, ⟨(ps.flatMap ptc), 28, true, 2⟩)]) (post := [(1, ⟨(qs.flatMap ptc), 28, true, 2⟩), (0, ⟨(ps.flatMap ptc), 28, true, 2⟩), (3, ⟨[.int .i64 w], 3, true, 1⟩)]) (v0 := .slice (some ⟨2, 0, none⟩) 1 0) (v := .slice (some ⟨3, 0, none⟩) 1 0) [1, 0, 3] (by kernel_rfl) (by kernel_rfl) (by kernel_rfl) (by kernel_rfl) (sides_ok qs ps w zqs fqs zps fps hF.2.2) (.cons (.slice _ _ _ _ _ (by decide)) (.cons (.slice _ _ _ _ _ (by decide)) .nil)) ⟨rfl, ⟨rfl, rfl, rfl, (.flats (flats_pair _))⟩, rfl, ⟨rfl, rfl, rfl, (.flats (flats_pair _))⟩, trivial⟩ (by kernel_rfl) (by kernel_rfl) (by kernel_rfl) ⟨rfl, ⟨rfl, rfl, rfl, (.flats (flats_pair _))⟩, rfl, ⟨rfl, rfl, rfl, (.flats (flats_pair _))⟩, rfl, ⟨rfl, rfl, rfl, (.flats (by kernel_rfl))⟩, trivial⟩ (.slice _ _ _ _ _ (by decide))) <|
      .a 4 4 <| .nil _ _) ?_
    refine aw_rt ?_
    exact en_ret [.bool true] (by kernel_rfl)


end Go.Proofs.Ytndkhgfecnbmnaa.Am
