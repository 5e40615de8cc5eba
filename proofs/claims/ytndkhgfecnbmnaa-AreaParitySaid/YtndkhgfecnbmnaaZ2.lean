/-
  The walk of the sides of a ring.
-/
import Derived.Test.YtndkhgfecnbmnaaProg
import Derived.Test.YtndkhgfecnbmnaaAm16
import Derived.Test.YtndkhgfecnbmnaaZ1
namespace Go.Proofs.Ytndkhgfecnbmnaa.Am
open Go Go.Proofs
set_option maxRecDepth 100000
set_option maxHeartbeats 4000000
set_option linter.unusedVariables false
set_option linter.unusedSimpArgs false

theorem sides_ok (ps qs : List (Int × Int)) (v : Int) (zps : 1 ≤ ps.length ∧ ps.length ≤ 200) (fps : Sp.Few 1000 ps) (zqs : 1 ≤ qs.length ∧ qs.length ≤ 200) (fqs : Sp.Few 1000 qs) (hs : Sp.sdAll ps qs v = true) :
    AC Try.prog 99 2 ([.slice (some ⟨0, 0, none⟩) ps.length 0, .slice (some ⟨1, 0, none⟩) qs.length 0]) [(0, ⟨(ps.flatMap ptc), 28, true, 2⟩), (1, ⟨(qs.flatMap ptc), 28, true, 2⟩)] (.slice (some ⟨2, 0, none⟩) 1 0) [(0, ⟨(ps.flatMap ptc), 28, true, 2⟩), (1, ⟨(qs.flatMap ptc), 28, true, 2⟩), (2, ⟨[.int .i64 v], 3, true, 1⟩)] := by
  refine ac_in Try.func99 (fun w0 W pin => ?_)
  refine aw_p 3 (
    .a 1 3 <| .nil _ _) ?_
  refine aw_p 7 (
    .a 1 3 <| .nil _ _) ?_
  refine aw_sq 14 15 ?_
  refine aw_p 29 (
    .a 3 3 <| .nil _ _) ?_
  refine aw_bl 0 59 ?_
  refine aw_lp 119 ?_
  refine al_round ?_
  refine aw_p 239 (
    .a 1 3 <| .nil _ _) ?_
  refine aw_sq 478 479 ?_
  refine aw_cd 956 957 (decide (0 < ((ps.length : Nat) : Int))) (fun h1 => ?_) (fun h1 => ?_)
  · have h1p : ((0 < ((ps.length : Nat) : Int))) := by first | (simpa using h1) | (have h1q := h1; simp at h1q; omega) | (have h1q := bx1 h1; simp at h1q; omega)
    refine aw_sk ?_
    refine then_normal ?_
    refine aw_sq 958 959 ?_
    refine aw_bl 1 1917 ?_
    refine aw_p 3835 (
      .a 2 3 <| .nil _ _) ?_
    refine aw_p 7671 (
      .a 3 3 <|
      .p (does_callB (x := .func 58) (ars := #[.tmp 13, .tmp 14, .tmp 15]) (ats := #[30, 3, 30]) (g := 58) (vs := [.slice (some ⟨0, 0, none⟩) ps.length 0, .int .i64 0, .slice (some ⟨1, 0, none⟩) qs.length 0]) (m := 2) (r := 0) (firsts := #[]) (caps := #[]) (args0 := [.slice (some ⟨0, 0, none⟩) ps.length 0, .int .i64 0, .slice (some ⟨1, 0, none⟩) qs.length 0]) (pre0 := [(0, ⟨(ps.flatMap ptc), 28, true, 2⟩), (1, ⟨(qs.flatMap ptc), 28, true, 2⟩)]) (post0 := [(0, ⟨(ps.flatMap ptc), 28, true, 2⟩), (1, ⟨(qs.flatMap ptc), 28, true, 2⟩)]) (pre := [(0, ⟨(ps.flatMap ptc), 28, true, 2⟩), (1, ⟨(qs.flatMap ptc), 28, true, 2⟩)]) (post := [(0, ⟨(ps.flatMap ptc), 28, true, 2⟩), (1, ⟨(qs.flatMap ptc), 28, true, 2⟩)]) (v0 := .int .i64 v) (v := .int .i64 v) [0, 1] (by kernel_rfl) (by kernel_rfl) (by kernel_rfl) (by kernel_rfl) ((by have h := side_ok ps qs zps fps zqs fqs 0 (by omega); rw [Sp.side_at hs (by omega)] at h; exact h)) (.cons (.slice _ _ _ _ _ (by decide)) (.cons (.flatB (by kernel_rfl)) (.cons (.slice _ _ _ _ _ (by decide)) .nil))) ⟨rfl, ⟨rfl, rfl, rfl, (.flats (flats_pair _))⟩, rfl, ⟨rfl, rfl, rfl, (.flats (flats_pair _))⟩, trivial⟩ (by kernel_rfl) (by kernel_rfl) (by kernel_rfl) ⟨rfl, ⟨rfl, rfl, rfl, (.flats (flats_pair _))⟩, rfl, ⟨rfl, rfl, rfl, (.flats (flats_pair _))⟩, trivial⟩ (.flatB (by kernel_rfl))) <|
      .a 1 3 <| .nil _ _) ?_
    refine aw_p 15343 (
      .a 2 3 <| .p (does_c (cti_nil v)) <| .a 1 3 <| .nil _ _) ?_
    refine aw_tr 30686 ?_
    refine aw_p1 (
      .a 3 3 <| .p (does_ap 4) <| .a 1 5 <| .nil _ _) ?_
    refine block_normal ?_
    refine then_normal ?_
    refine aw_p1 (
      .a 2 5 <| .nil _ _) ?_
    refine then_normal ?_
    refine al_w [(0, .slice (some ⟨0, 0, none⟩) ps.length 0), (1, .slice (some ⟨1, 0, none⟩) qs.length 0), (5, .slice (some ⟨4, 0, none⟩) 1 0), (8, .slice (some ⟨0, 0, none⟩) ps.length 0), (9, .int .i64 ((ps.length : Nat) : Int)), (10, .int .i64 ((1 : Nat) : Int))] [(0, ⟨(ps.flatMap ptc), 28, true, 2⟩), (1, ⟨(qs.flatMap ptc), 28, true, 2⟩), (4, ⟨[.int .i64 v], 3, true, 1⟩)] ?_ (hc := (by simp [closedB, valsB, valB, List.all_eq_true, List.mem_flatMap, List.mem_range, List.mem_map, i64v, ptc, flat1]; try (intros; simp [valsB, valB, flat1]); try decide))
    refine al_ind (fun i : Nat => (fun (i : Nat) => mkSt 2 [(0, .slice (some ⟨0, 0, none⟩) ps.length 0), (1, .slice (some ⟨1, 0, none⟩) qs.length 0), (5, .slice (some ⟨4, 0, none⟩) 1 0), (8, .slice (some ⟨0, 0, none⟩) ps.length 0), (9, .int .i64 ((ps.length : Nat) : Int)), (10, .int .i64 ((i : Nat) : Int))] [(0, ⟨(ps.flatMap ptc), 28, true, 2⟩), (1, ⟨(qs.flatMap ptc), 28, true, 2⟩), (4, ⟨[.int .i64 v], 3, true, 1⟩)]) i) (fun i : Nat => (fun (i : Nat) => (1 ≤ i ∧ i ≤ ps.length)) i) (fun i : Nat => (fun (i : Nat) => ps.length - i) i) (fun i hi1 ih1 => ?_) 1 (show (1 ≤ 1 ∧ 1 ≤ ps.length) from by omega)
    obtain ⟨i, hv1⟩ : ∃ z, z = i := ⟨i, rfl⟩; subst hv1
    have hi1' : (1 ≤ i ∧ i ≤ ps.length) := hi1
    have hi : 1 ≤ i ∧ i ≤ ps.length := hi1'
    show AL _ _ _ (mkSt 2 [(0, .slice (some ⟨0, 0, none⟩) ps.length 0), (1, .slice (some ⟨1, 0, none⟩) qs.length 0), (5, .slice (some ⟨4, 0, none⟩) 1 0), (8, .slice (some ⟨0, 0, none⟩) ps.length 0), (9, .int .i64 ((ps.length : Nat) : Int)), (10, .int .i64 ((i : Nat) : Int))] [(0, ⟨(ps.flatMap ptc), 28, true, 2⟩), (1, ⟨(qs.flatMap ptc), 28, true, 2⟩), (4, ⟨[.int .i64 v], 3, true, 1⟩)]) _
    refine al_round ?_
    refine aw_p 239 (
      .a 1 5 <| .nil _ _) ?_
    refine aw_sq 478 479 ?_
    refine aw_cd 956 957 (decide (((i : Nat) : Int) < ((ps.length : Nat) : Int))) (fun h2 => ?_) (fun h2 => ?_)
    · have h2p : ((((i : Nat) : Int) < ((ps.length : Nat) : Int))) := by first | (simpa using h2) | (have h2q := h2; simp at h2q; omega) | (have h2q := bx1 h2; simp at h2q; omega)
      refine aw_sk ?_
      refine then_normal ?_
      refine aw_sq 958 959 ?_
      refine aw_bl 1 1917 ?_
      refine aw_p 3835 (
        .a 2 5 <| .nil _ _) ?_
      refine aw_p 7671 (
        .a 3 5 <|
        .p (does_callB (x := .func 58) (ars := #[.tmp 13, .tmp 14, .tmp 15]) (ats := #[30, 3, 30]) (g := 58) (vs := [.slice (some ⟨0, 0, none⟩) ps.length 0, .int .i64 ((i : Nat) : Int), .slice (some ⟨1, 0, none⟩) qs.length 0]) (m := 2) (r := 0) (firsts := #[]) (caps := #[]) (args0 := [.slice (some ⟨0, 0, none⟩) ps.length 0, .int .i64 ((i : Nat) : Int), .slice (some ⟨1, 0, none⟩) qs.length 0]) (pre0 := [(0, ⟨(ps.flatMap ptc), 28, true, 2⟩), (1, ⟨(qs.flatMap ptc), 28, true, 2⟩)]) (post0 := [(0, ⟨(ps.flatMap ptc), 28, true, 2⟩), (1, ⟨(qs.flatMap ptc), 28, true, 2⟩)]) (pre := [(0, ⟨(ps.flatMap ptc), 28, true, 2⟩), (1, ⟨(qs.flatMap ptc), 28, true, 2⟩)]) (post := [(0, ⟨(ps.flatMap ptc), 28, true, 2⟩), (1, ⟨(qs.flatMap ptc), 28, true, 2⟩)]) (v0 := .int .i64 v) (v := .int .i64 v) [0, 1] (by kernel_rfl) (by kernel_rfl) (by kernel_rfl) (by kernel_rfl) ((by have h := side_ok ps qs zps fps zqs fqs i (by omega); rw [Sp.side_at hs (by omega)] at h; exact h)) (.cons (.slice _ _ _ _ _ (by decide)) (.cons (.flatB (by kernel_rfl)) (.cons (.slice _ _ _ _ _ (by decide)) .nil))) ⟨rfl, ⟨rfl, rfl, rfl, (.flats (flats_pair _))⟩, rfl, ⟨rfl, rfl, rfl, (.flats (flats_pair _))⟩, trivial⟩ (by kernel_rfl) (by kernel_rfl) (by kernel_rfl) ⟨rfl, ⟨rfl, rfl, rfl, (.flats (flats_pair _))⟩, rfl, ⟨rfl, rfl, rfl, (.flats (flats_pair _))⟩, trivial⟩ (.flatB (by kernel_rfl))) <|
        .a 1 5 <| .nil _ _) ?_
      refine aw_p 15343 (
        .a 2 5 <| .p (does_k [4] (cti_one v)) <| .a 1 5 <| .nil _ _) ?_
      refine aw_fl 30687 ?_
      refine aw_sk ?_
      refine block_normal ?_
      refine then_normal ?_
      refine aw_p1 (
        .p (does_i (((i : Nat) : Int) + 1) (wrap_i64 (by omega) (by omega)) .i64) <| .a 1 5 <| .nil _ _) ?_
      refine then_normal ?_
      refine al_w [(0, .slice (some ⟨0, 0, none⟩) ps.length 0), (1, .slice (some ⟨1, 0, none⟩) qs.length 0), (5, .slice (some ⟨4, 0, none⟩) 1 0), (8, .slice (some ⟨0, 0, none⟩) ps.length 0), (9, .int .i64 ((ps.length : Nat) : Int)), (10, .int .i64 (((i + 1) : Nat) : Int))] [(0, ⟨(ps.flatMap ptc), 28, true, 2⟩), (1, ⟨(qs.flatMap ptc), 28, true, 2⟩), (4, ⟨[.int .i64 v], 3, true, 1⟩)] ?_ (hc := (by simp [closedB, valsB, valB, List.all_eq_true, List.mem_flatMap, List.mem_range, List.mem_map, i64v, ptc, flat1]; try (intros; simp [valsB, valB, flat1]); try decide))
      exact ih1 (i + 1) (show (1 ≤ (i + 1) ∧ (i + 1) ≤ ps.length) from by omega) (show ps.length - (i + 1) < ps.length - i from by omega)
    · have h2p : ¬ ((((i : Nat) : Int) < ((ps.length : Nat) : Int))) := by first | (simpa using h2) | (have h2q := h2; simp at h2q; omega) | (have h2q := bx2 h2; simp at h2q; omega)
      refine aw_ex 0 ?_
      refine then_exit ?_
      refine then_exit ?_
      refine block_exit ?_
      refine then_normal ?_
      refine aw_p 31 (
        .a 2 5 <| .nil _ _) ?_
      refine aw_r [(2, 4)] [(4, .slice (some ⟨4, 0, none⟩) 1 0)] [(0, ⟨(ps.flatMap ptc), 28, true, 2⟩), (1, ⟨(qs.flatMap ptc), 28, true, 2⟩), (4, ⟨[.int .i64 v], 3, true, 1⟩)] [(4, .slice (some ⟨2, 0, none⟩) 1 0)] [(0, ⟨(ps.flatMap ptc), 28, true, 2⟩), (1, ⟨(qs.flatMap ptc), 28, true, 2⟩), (2, ⟨[.int .i64 v], 3, true, 1⟩)] ?_ ⟨rfl, (.slice _ _ _ _ _ rfl), trivial⟩ ⟨rfl, ⟨rfl, rfl, rfl, (.flats (flats_pair _))⟩, rfl, ⟨rfl, rfl, rfl, (.flats (flats_pair _))⟩, rfl, ⟨rfl, rfl, rfl, (.flats (by kernel_rfl))⟩, trivial⟩
      refine aw_rt ?_
      exact en_ret [.slice (some ⟨2, 0, none⟩) 1 0] (by kernel_rfl)
  · have h1p : ¬ ((0 < ((ps.length : Nat) : Int))) := by first | (simpa using h1) | (have h1q := h1; simp at h1q; omega) | (have h1q := bx2 h1; simp at h1q; omega)
    exact absurd zps.1 (by omega)


end Go.Proofs.Ytndkhgfecnbmnaa.Am
