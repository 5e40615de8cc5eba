/-
  The walk of the document's search of a corner.
-/
import Derived.Test.YtadifmimefmcnaaProg
import Derived.Test.YtadifmimefmcnaaAm16
import Derived.Test.YtadifmimefmcnaaSb
import Derived.Test.YtadifmimefmcnaaAm25
namespace Go.Proofs.Ytadifmimefmcnaa.Am
open Go Go.Proofs
set_option maxRecDepth 100000
set_option maxHeartbeats 4000000
set_option linter.unusedVariables false
set_option linter.unusedSimpArgs false

theorem fnd_ok (h F : List (Int × Int)) (x y s : Int) (hF : h.filter (Sp.okS h (x, y) s) = F) (hne : 1 ≤ F.length) (hn : 1 ≤ h.length) (hz : h.length ≤ 8796093021952) (hfh : Sp.Few 1048576 h) (bx : -1048576 ≤ x ∧ x ≤ 1048576) (by1 : -1048576 ≤ y ∧ y ≤ 1048576) (hs : s = 1 ∨ s = -1) :
    AC Try.prog 43 3 ([.int .i64 s, .pointer (some ⟨0, 0, none⟩), .pointer (some ⟨1, 0, none⟩)]) [(0, ⟨[.slice (some ⟨2, 0, none⟩) h.length 0], 24, true, 1⟩), (1, ⟨[.int .i64 x, .int .i64 y], 29, true, 2⟩), (2, ⟨(h.flatMap ptc), 29, true, 2⟩)] (.agg #[.int .i64 ((Sp.mnD (x, y) F (F.length - 1)).1), .int .i64 ((Sp.mnD (x, y) F (F.length - 1)).2)]) [(0, ⟨[.slice (some ⟨2, 0, none⟩) h.length 0], 24, true, 1⟩), (1, ⟨[.int .i64 x, .int .i64 y], 29, true, 2⟩), (2, ⟨(h.flatMap ptc), 29, true, 2⟩)] := by
  have hfl : F.length ≤ h.length := (by rw [← hF]; exact List.length_filter_le _ _); have hff : Sp.Few 1048576 F := (by rw [← hF, ← Sp.fsS_all]; exact Sp.fsS_few (by decide) hfh _ _ _)
  refine ac_in Try.func43 (fun w0 W pin => ?_)
  refine aw_p 3 (
    .a 2 3 <| .nil _ _) ?_
  refine aw_p 7 (
    .a 1 5 <| .nil _ _) ?_
  refine aw_sq 14 15 ?_
  refine aw_p 29 (
    .a 3 5 <| .nil _ _) ?_
  refine aw_bl 0 59 ?_
  refine aw_lp 119 ?_
  refine al_w [(1, .pointer (some ⟨0, 0, none⟩)), (2, .pointer (some ⟨1, 0, none⟩)), (3, .pointer (some ⟨3, 0, none⟩)), (4, .pointer (some ⟨4, 0, none⟩)), (5, .slice none 0 0), (8, .slice (some ⟨2, 0, none⟩) h.length 0), (9, .int .i64 ((h.length : Nat) : Int)), (10, .int .i64 ((0 : Nat) : Int))] [(0, ⟨[.slice (some ⟨2, 0, none⟩) h.length 0], 24, true, 1⟩), (1, ⟨[.int .i64 x, .int .i64 y], 29, true, 2⟩), (2, ⟨(h.flatMap ptc), 29, true, 2⟩), (3, ⟨[.int .i64 s], 3, true, 1⟩), (4, ⟨[.int .i64 0, .int .i64 0], 29, true, 2⟩)] ?_ (hc := (by simp [closedB, valsB, valB, List.all_eq_true, List.mem_flatMap, List.mem_range, List.mem_map, i64v, ptc, flat1]; try (intros; simp [valsB, valB, flat1]); try decide))
  refine al_ind (fun i : Nat => (fun (k : Nat) => mkSt 3 [(1, .pointer (some ⟨0, 0, none⟩)), (2, .pointer (some ⟨1, 0, none⟩)), (3, .pointer (some ⟨3, 0, none⟩)), (4, .pointer (some ⟨4, 0, none⟩)), (5, .slice none 0 0), (8, .slice (some ⟨2, 0, none⟩) h.length 0), (9, .int .i64 ((h.length : Nat) : Int)), (10, .int .i64 ((k : Nat) : Int))] [(0, ⟨[.slice (some ⟨2, 0, none⟩) h.length 0], 24, true, 1⟩), (1, ⟨[.int .i64 x, .int .i64 y], 29, true, 2⟩), (2, ⟨(h.flatMap ptc), 29, true, 2⟩), (3, ⟨[.int .i64 s], 3, true, 1⟩), (4, ⟨[.int .i64 0, .int .i64 0], 29, true, 2⟩)]) i) (fun i : Nat => (fun (k : Nat) => (k ≤ h.length) ∧ ((Sp.fsS h (x, y) s k) = [])) i) (fun i : Nat => (fun (k : Nat) => h.length - k) i) (fun i hi1 ih1 => ?_) 0 (show (0 ≤ h.length) ∧ ((Sp.fsS h (x, y) s 0) = []) from ⟨by omega, by rfl⟩)
  obtain ⟨k, hv1⟩ : ∃ z, z = i := ⟨i, rfl⟩; subst hv1
  have hi1' : (k ≤ h.length) ∧ ((Sp.fsS h (x, y) s k) = []) := hi1
  obtain ⟨hk, hz0⟩ := hi1'
  show AL _ _ _ (mkSt 3 [(1, .pointer (some ⟨0, 0, none⟩)), (2, .pointer (some ⟨1, 0, none⟩)), (3, .pointer (some ⟨3, 0, none⟩)), (4, .pointer (some ⟨4, 0, none⟩)), (5, .slice none 0 0), (8, .slice (some ⟨2, 0, none⟩) h.length 0), (9, .int .i64 ((h.length : Nat) : Int)), (10, .int .i64 ((k : Nat) : Int))] [(0, ⟨[.slice (some ⟨2, 0, none⟩) h.length 0], 24, true, 1⟩), (1, ⟨[.int .i64 x, .int .i64 y], 29, true, 2⟩), (2, ⟨(h.flatMap ptc), 29, true, 2⟩), (3, ⟨[.int .i64 s], 3, true, 1⟩), (4, ⟨[.int .i64 0, .int .i64 0], 29, true, 2⟩)]) _
  have fk := hfh k
  refine al_round ?_
  refine aw_p 239 (
    .a 1 5 <| .nil _ _) ?_
  refine aw_sq 478 479 ?_
  refine aw_cd 956 957 (decide (((k : Nat) : Int) < ((h.length : Nat) : Int))) (fun h1 => ?_) (fun h1 => ?_)
  · have h1p : ((((k : Nat) : Int) < ((h.length : Nat) : Int))) := by first | (simpa using h1) | (have h1q := h1; simp at h1q; omega) | (have h1q := bx1 h1; simp at h1q; omega)
    have hkl : k < h.length := by omega
    refine aw_sk ?_
    refine then_normal ?_
    refine aw_sq 958 959 ?_
    refine aw_bl 1 1917 ?_
    refine aw_p 3835 (
      .p (does_indexSlice (t := 24) (x := .tmp 8) (y := .tmp 10) (k := 2) (off := 0) (n := h.length) (c := 0) (z := 2) (kd := .i64) (j := ((k : Nat) : Int)) (by kernel_rfl) (by kernel_rfl) (by kernel_rfl) (by kernel_rfl) (by kernel_rfl) (by omega) (by omega)) <|
      .p (does_load (t := 29) (x := .tmp 12) (k := 2) (off := (0 + (((k : Nat) : Int)).toNat * 2)) (b := ⟨(h.flatMap ptc), 29, true, 2⟩) (v := .agg #[.int .i64 ((h.getD k (0, 0)).1), .int .i64 ((h.getD k (0, 0)).2)]) (by kernel_rfl) (by kernel_rfl) (by kernel_rfl) (ldV_pair (j := k) (by kernel_rfl) (by kernel_rfl) (by omega) (by omega))) <|
      .a 2 5 <| .nil _ _) ?_
    refine aw_p 7671 (
      .a 2 6 <|
      .p (does_callB (x := .func 19) (ars := #[.tmp 14, .tmp 15]) (ats := #[24, 34]) (g := 19) (vs := [.slice (some ⟨2, 0, none⟩) h.length 0, .func (.func 44) #[] #[.pointer (some ⟨1, 0, none⟩), .pointer (some ⟨5, 0, none⟩), .pointer (some ⟨3, 0, none⟩)]]) (m := 4) (r := 0) (firsts := #[]) (caps := #[]) (args0 := [.slice (some ⟨0, 0, none⟩) h.length 0, .func (.func 44) #[] #[.pointer (some ⟨1, 0, none⟩), .pointer (some ⟨2, 0, none⟩), .pointer (some ⟨3, 0, none⟩)]]) (pre0 := [(0, ⟨(h.flatMap ptc), 29, true, 2⟩), (1, ⟨[.int .i64 x, .int .i64 y], 29, true, 2⟩), (2, ⟨[.int .i64 ((h.getD k (0, 0)).1), .int .i64 ((h.getD k (0, 0)).2)], 29, true, 2⟩), (3, ⟨[.int .i64 s], 3, true, 1⟩)]) (post0 := [(0, ⟨(h.flatMap ptc), 29, true, 2⟩), (1, ⟨[.int .i64 x, .int .i64 y], 29, true, 2⟩), (2, ⟨[.int .i64 ((h.getD k (0, 0)).1), .int .i64 ((h.getD k (0, 0)).2)], 29, true, 2⟩), (3, ⟨[.int .i64 s], 3, true, 1⟩)]) (pre := [(2, ⟨(h.flatMap ptc), 29, true, 2⟩), (1, ⟨[.int .i64 x, .int .i64 y], 29, true, 2⟩), (5, ⟨[.int .i64 ((h.getD k (0, 0)).1), .int .i64 ((h.getD k (0, 0)).2)], 29, true, 2⟩), (3, ⟨[.int .i64 s], 3, true, 1⟩)]) (post := [(2, ⟨(h.flatMap ptc), 29, true, 2⟩), (1, ⟨[.int .i64 x, .int .i64 y], 29, true, 2⟩), (5, ⟨[.int .i64 ((h.getD k (0, 0)).1), .int .i64 ((h.getD k (0, 0)).2)], 29, true, 2⟩), (3, ⟨[.int .i64 s], 3, true, 1⟩)]) (v0 := .bool (h.any (Sp.sdf (x, y) ((h.getD k (0, 0)).1, (h.getD k (0, 0)).2) s))) (v := .bool (h.any (Sp.sdf (x, y) ((h.getD k (0, 0)).1, (h.getD k (0, 0)).2) s))) [2, 1, 5, 3] (by kernel_rfl) (by kernel_rfl) (by kernel_rfl) (by kernel_rfl) (cts_ok h x y ((h.getD k (0, 0)).1) ((h.getD k (0, 0)).2) s hn hz hfh bx by1 fk.1 fk.2 hs) (.cons (.slice _ _ _ _ _ (by decide)) (.cons (.funcL (.flats (by kernel_rfl)) (.cons (.ptr _ _ (by decide)) (.cons (.ptr _ _ (by decide)) (.cons (.ptr _ _ (by decide)) .nil)))) .nil)) ⟨rfl, ⟨rfl, rfl, rfl, (.flats (flats_pair _))⟩, rfl, ⟨rfl, rfl, rfl, (.flats (by kernel_rfl))⟩, rfl, ⟨rfl, rfl, rfl, (.flats (by kernel_rfl))⟩, rfl, ⟨rfl, rfl, rfl, (.flats (by kernel_rfl))⟩, trivial⟩ (by kernel_rfl) (by kernel_rfl) (by kernel_rfl) ⟨rfl, ⟨rfl, rfl, rfl, (.flats (flats_pair _))⟩, rfl, ⟨rfl, rfl, rfl, (.flats (by kernel_rfl))⟩, rfl, ⟨rfl, rfl, rfl, (.flats (by kernel_rfl))⟩, rfl, ⟨rfl, rfl, rfl, (.flats (by kernel_rfl))⟩, trivial⟩ (.flatB (by kernel_rfl))) <|
      .a 1 6 <| .nil _ _) ?_
    refine aw_cd 15342 15343 (!(h.any (Sp.sdf (x, y) ((h.getD k (0, 0)).1, (h.getD k (0, 0)).2) s))) (fun h2 => ?_) (fun h2 => ?_)
    · refine aw_p1 (
        .a 3 6 <| .p (does_ap 7) <| .a 1 8 <| .nil _ _) ?_
      refine block_normal ?_
      refine then_normal ?_
      refine aw_p1 (
        .p (does_i (((k : Nat) : Int) + 1) (wrap_i64 (by omega) (by omega)) .i64) <| .a 1 8 <| .nil _ _) ?_
      refine then_normal ?_
      refine al_w [(1, .pointer (some ⟨0, 0, none⟩)), (2, .pointer (some ⟨1, 0, none⟩)), (3, .pointer (some ⟨3, 0, none⟩)), (4, .pointer (some ⟨4, 0, none⟩)), (5, .slice (some ⟨7, 0, none⟩) ((Sp.fsS h (x, y) s (k + 1)).length) 0), (8, .slice (some ⟨2, 0, none⟩) h.length 0), (9, .int .i64 ((h.length : Nat) : Int)), (10, .int .i64 (((k : Nat) : Int) + 1))] [(0, ⟨[.slice (some ⟨2, 0, none⟩) h.length 0], 24, true, 1⟩), (1, ⟨[.int .i64 x, .int .i64 y], 29, true, 2⟩), (2, ⟨(h.flatMap ptc), 29, true, 2⟩), (3, ⟨[.int .i64 s], 3, true, 1⟩), (4, ⟨[.int .i64 0, .int .i64 0], 29, true, 2⟩), (7, ⟨((Sp.fsS h (x, y) s (k + 1)).flatMap ptc), 29, true, 2⟩)] ?_ (by (rw [Sp.fsS_one hkl (by assumption) hz0]); kernel_rfl) (by (rw [Sp.fsS_first hkl (by assumption) hz0 rfl]); kernel_rfl) (hc := (by simp [closedB, valsB, valB, List.all_eq_true, List.mem_flatMap, List.mem_range, List.mem_map, i64v, ptc, flat1]; try (intros; simp [valsB, valB, flat1]); try decide))
      refine al_w [(1, .pointer (some ⟨0, 0, none⟩)), (2, .pointer (some ⟨1, 0, none⟩)), (3, .pointer (some ⟨3, 0, none⟩)), (4, .pointer (some ⟨4, 0, none⟩)), (5, .slice (some ⟨7, 0, none⟩) ((Sp.fsS h (x, y) s (k + 1)).length) 0), (8, .slice (some ⟨2, 0, none⟩) h.length 0), (9, .int .i64 ((h.length : Nat) : Int)), (10, .int .i64 (((k + 1) : Nat) : Int))] [(0, ⟨[.slice (some ⟨2, 0, none⟩) h.length 0], 24, true, 1⟩), (1, ⟨[.int .i64 x, .int .i64 y], 29, true, 2⟩), (2, ⟨(h.flatMap ptc), 29, true, 2⟩), (3, ⟨[.int .i64 s], 3, true, 1⟩), (4, ⟨[.int .i64 0, .int .i64 0], 29, true, 2⟩), (7, ⟨((Sp.fsS h (x, y) s (k + 1)).flatMap ptc), 29, true, 2⟩)] ?_ (hc := (by simp [closedB, valsB, valB, List.all_eq_true, List.mem_flatMap, List.mem_range, List.mem_map, i64v, ptc, flat1]; try (intros; simp [valsB, valB, flat1]); try decide))
      refine al_ind (fun i : Nat => (fun (j : Nat) => mkSt 3 [(1, .pointer (some ⟨0, 0, none⟩)), (2, .pointer (some ⟨1, 0, none⟩)), (3, .pointer (some ⟨3, 0, none⟩)), (4, .pointer (some ⟨4, 0, none⟩)), (5, .slice (some ⟨7, 0, none⟩) ((Sp.fsS h (x, y) s j).length) 0), (8, .slice (some ⟨2, 0, none⟩) h.length 0), (9, .int .i64 ((h.length : Nat) : Int)), (10, .int .i64 ((j : Nat) : Int))] [(0, ⟨[.slice (some ⟨2, 0, none⟩) h.length 0], 24, true, 1⟩), (1, ⟨[.int .i64 x, .int .i64 y], 29, true, 2⟩), (2, ⟨(h.flatMap ptc), 29, true, 2⟩), (3, ⟨[.int .i64 s], 3, true, 1⟩), (4, ⟨[.int .i64 0, .int .i64 0], 29, true, 2⟩), (7, ⟨((Sp.fsS h (x, y) s j).flatMap ptc), 29, true, 2⟩)]) i) (fun i : Nat => (fun (j : Nat) => (j ≤ h.length)) i) (fun i : Nat => (fun (j : Nat) => h.length - j) i) (fun i hi2 ih2 => ?_) (k + 1) (show ((k + 1) ≤ h.length) from by omega)
      obtain ⟨j, hv2⟩ : ∃ z, z = i := ⟨i, rfl⟩; subst hv2
      have hi2' : (j ≤ h.length) := hi2
      have hj : j ≤ h.length := hi2'
      show AL _ _ _ (mkSt 3 [(1, .pointer (some ⟨0, 0, none⟩)), (2, .pointer (some ⟨1, 0, none⟩)), (3, .pointer (some ⟨3, 0, none⟩)), (4, .pointer (some ⟨4, 0, none⟩)), (5, .slice (some ⟨7, 0, none⟩) ((Sp.fsS h (x, y) s j).length) 0), (8, .slice (some ⟨2, 0, none⟩) h.length 0), (9, .int .i64 ((h.length : Nat) : Int)), (10, .int .i64 ((j : Nat) : Int))] [(0, ⟨[.slice (some ⟨2, 0, none⟩) h.length 0], 24, true, 1⟩), (1, ⟨[.int .i64 x, .int .i64 y], 29, true, 2⟩), (2, ⟨(h.flatMap ptc), 29, true, 2⟩), (3, ⟨[.int .i64 s], 3, true, 1⟩), (4, ⟨[.int .i64 0, .int .i64 0], 29, true, 2⟩), (7, ⟨((Sp.fsS h (x, y) s j).flatMap ptc), 29, true, 2⟩)]) _
      have fj := hfh j; have hle := Sp.fsS_le h (x, y) s j
      refine al_round ?_
      refine aw_p 239 (
        .a 1 8 <| .nil _ _) ?_
      refine aw_sq 478 479 ?_
      refine aw_cd 956 957 (decide (((j : Nat) : Int) < ((h.length : Nat) : Int))) (fun h3 => ?_) (fun h3 => ?_)
      · have h3p : ((((j : Nat) : Int) < ((h.length : Nat) : Int))) := by first | (simpa using h3) | (have h3q := h3; simp at h3q; omega) | (have h3q := bx1 h3; simp at h3q; omega)
        have hjl : j < h.length := by omega
        refine aw_sk ?_
        refine then_normal ?_
        refine aw_sq 958 959 ?_
        refine aw_bl 1 1917 ?_
        refine aw_p 3835 (
          .p (does_indexSlice (t := 24) (x := .tmp 8) (y := .tmp 10) (k := 2) (off := 0) (n := h.length) (c := 0) (z := 2) (kd := .i64) (j := ((j : Nat) : Int)) (by kernel_rfl) (by kernel_rfl) (by kernel_rfl) (by kernel_rfl) (by kernel_rfl) (by omega) (by omega)) <|
          .p (does_load (t := 29) (x := .tmp 12) (k := 2) (off := (0 + (((j : Nat) : Int)).toNat * 2)) (b := ⟨(h.flatMap ptc), 29, true, 2⟩) (v := .agg #[.int .i64 ((h.getD j (0, 0)).1), .int .i64 ((h.getD j (0, 0)).2)]) (by kernel_rfl) (by kernel_rfl) (by kernel_rfl) (ldV_pair (j := j) (by kernel_rfl) (by kernel_rfl) (by omega) (by omega))) <|
          .a 2 8 <| .nil _ _) ?_
        refine aw_p 7671 (
          .a 2 9 <|
          .p (does_callB (x := .func 19) (ars := #[.tmp 14, .tmp 15]) (ats := #[24, 34]) (g := 19) (vs := [.slice (some ⟨2, 0, none⟩) h.length 0, .func (.func 44) #[] #[.pointer (some ⟨1, 0, none⟩), .pointer (some ⟨8, 0, none⟩), .pointer (some ⟨3, 0, none⟩)]]) (m := 4) (r := 0) (firsts := #[]) (caps := #[]) (args0 := [.slice (some ⟨0, 0, none⟩) h.length 0, .func (.func 44) #[] #[.pointer (some ⟨1, 0, none⟩), .pointer (some ⟨2, 0, none⟩), .pointer (some ⟨3, 0, none⟩)]]) (pre0 := [(0, ⟨(h.flatMap ptc), 29, true, 2⟩), (1, ⟨[.int .i64 x, .int .i64 y], 29, true, 2⟩), (2, ⟨[.int .i64 ((h.getD j (0, 0)).1), .int .i64 ((h.getD j (0, 0)).2)], 29, true, 2⟩), (3, ⟨[.int .i64 s], 3, true, 1⟩)]) (post0 := [(0, ⟨(h.flatMap ptc), 29, true, 2⟩), (1, ⟨[.int .i64 x, .int .i64 y], 29, true, 2⟩), (2, ⟨[.int .i64 ((h.getD j (0, 0)).1), .int .i64 ((h.getD j (0, 0)).2)], 29, true, 2⟩), (3, ⟨[.int .i64 s], 3, true, 1⟩)]) (pre := [(2, ⟨(h.flatMap ptc), 29, true, 2⟩), (1, ⟨[.int .i64 x, .int .i64 y], 29, true, 2⟩), (8, ⟨[.int .i64 ((h.getD j (0, 0)).1), .int .i64 ((h.getD j (0, 0)).2)], 29, true, 2⟩), (3, ⟨[.int .i64 s], 3, true, 1⟩)]) (post := [(2, ⟨(h.flatMap ptc), 29, true, 2⟩), (1, ⟨[.int .i64 x, .int .i64 y], 29, true, 2⟩), (8, ⟨[.int .i64 ((h.getD j (0, 0)).1), .int .i64 ((h.getD j (0, 0)).2)], 29, true, 2⟩), (3, ⟨[.int .i64 s], 3, true, 1⟩)]) (v0 := .bool (h.any (Sp.sdf (x, y) ((h.getD j (0, 0)).1, (h.getD j (0, 0)).2) s))) (v := .bool (h.any (Sp.sdf (x, y) ((h.getD j (0, 0)).1, (h.getD j (0, 0)).2) s))) [2, 1, 8, 3] (by kernel_rfl) (by kernel_rfl) (by kernel_rfl) (by kernel_rfl) (cts_ok h x y ((h.getD j (0, 0)).1) ((h.getD j (0, 0)).2) s hn hz hfh bx by1 fj.1 fj.2 hs) (.cons (.slice _ _ _ _ _ (by decide)) (.cons (.funcL (.flats (by kernel_rfl)) (.cons (.ptr _ _ (by decide)) (.cons (.ptr _ _ (by decide)) (.cons (.ptr _ _ (by decide)) .nil)))) .nil)) ⟨rfl, ⟨rfl, rfl, rfl, (.flats (flats_pair _))⟩, rfl, ⟨rfl, rfl, rfl, (.flats (by kernel_rfl))⟩, rfl, ⟨rfl, rfl, rfl, (.flats (by kernel_rfl))⟩, rfl, ⟨rfl, rfl, rfl, (.flats (by kernel_rfl))⟩, trivial⟩ (by kernel_rfl) (by kernel_rfl) (by kernel_rfl) ⟨rfl, ⟨rfl, rfl, rfl, (.flats (flats_pair _))⟩, rfl, ⟨rfl, rfl, rfl, (.flats (by kernel_rfl))⟩, rfl, ⟨rfl, rfl, rfl, (.flats (by kernel_rfl))⟩, rfl, ⟨rfl, rfl, rfl, (.flats (by kernel_rfl))⟩, trivial⟩ (.flatB (by kernel_rfl))) <|
          .a 1 9 <| .nil _ _) ?_
        refine aw_cd 15342 15343 (!(h.any (Sp.sdf (x, y) ((h.getD j (0, 0)).1, (h.getD j (0, 0)).2) s))) (fun h4 => ?_) (fun h4 => ?_)
        · refine aw_p1 (
            .a 3 9 <|
            .p (does_apy 10 29 2 16 7 ((Sp.fsS h (x, y) s j).length) 9 1 ⟨((Sp.fsS h (x, y) s j).flatMap ptc), 29, true, 2⟩ ⟨[.int .i64 ((h.getD j (0, 0)).1), .int .i64 ((h.getD j (0, 0)).2)], 29, true, 2⟩ ((Sp.fsS h (x, y) s (j + 1)).flatMap ptc) (by kernel_rfl) (by kernel_rfl) (by kernel_rfl) (by kernel_rfl) (by kernel_rfl) (by show ((Sp.fsS h (x, y) s j).flatMap ptc).length = _; rw [pairs_length]; omega) (by omega) (by omega) (Sp.fsS_cells hjl (by assumption) rfl)) <|
            .a 1 11 <| .nil _ _) ?_
          refine block_normal ?_
          refine then_normal ?_
          refine aw_p1 (
            .p (does_i (((j : Nat) : Int) + 1) (wrap_i64 (by omega) (by omega)) .i64) <| .a 1 11 <| .nil _ _) ?_
          refine then_normal ?_
          refine al_w [(1, .pointer (some ⟨0, 0, none⟩)), (2, .pointer (some ⟨1, 0, none⟩)), (3, .pointer (some ⟨3, 0, none⟩)), (4, .pointer (some ⟨4, 0, none⟩)), (5, .slice (some ⟨10, 0, none⟩) ((Sp.fsS h (x, y) s (j + 1)).length) 0), (8, .slice (some ⟨2, 0, none⟩) h.length 0), (9, .int .i64 ((h.length : Nat) : Int)), (10, .int .i64 (((j : Nat) : Int) + 1))] [(0, ⟨[.slice (some ⟨2, 0, none⟩) h.length 0], 24, true, 1⟩), (1, ⟨[.int .i64 x, .int .i64 y], 29, true, 2⟩), (2, ⟨(h.flatMap ptc), 29, true, 2⟩), (3, ⟨[.int .i64 s], 3, true, 1⟩), (4, ⟨[.int .i64 0, .int .i64 0], 29, true, 2⟩), (10, ⟨((Sp.fsS h (x, y) s (j + 1)).flatMap ptc), 29, true, 2⟩)] ?_ (by (rw [Sp.fsS_len hjl (by assumption)]); kernel_rfl) (by kernel_rfl) (hc := (by simp [closedB, valsB, valB, List.all_eq_true, List.mem_flatMap, List.mem_range, List.mem_map, i64v, ptc, flat1]; try (intros; simp [valsB, valB, flat1]); try decide))
          refine al_r [(7, 10)] [(1, .pointer (some ⟨0, 0, none⟩)), (2, .pointer (some ⟨1, 0, none⟩)), (3, .pointer (some ⟨3, 0, none⟩)), (4, .pointer (some ⟨4, 0, none⟩)), (5, .slice (some ⟨10, 0, none⟩) ((Sp.fsS h (x, y) s (j + 1)).length) 0), (8, .slice (some ⟨2, 0, none⟩) h.length 0), (9, .int .i64 ((h.length : Nat) : Int)), (10, .int .i64 (((j + 1) : Nat) : Int))] [(0, ⟨[.slice (some ⟨2, 0, none⟩) h.length 0], 24, true, 1⟩), (1, ⟨[.int .i64 x, .int .i64 y], 29, true, 2⟩), (2, ⟨(h.flatMap ptc), 29, true, 2⟩), (3, ⟨[.int .i64 s], 3, true, 1⟩), (4, ⟨[.int .i64 0, .int .i64 0], 29, true, 2⟩), (10, ⟨((Sp.fsS h (x, y) s (j + 1)).flatMap ptc), 29, true, 2⟩)] [(1, .pointer (some ⟨0, 0, none⟩)), (2, .pointer (some ⟨1, 0, none⟩)), (3, .pointer (some ⟨3, 0, none⟩)), (4, .pointer (some ⟨4, 0, none⟩)), (5, .slice (some ⟨7, 0, none⟩) ((Sp.fsS h (x, y) s (j + 1)).length) 0), (8, .slice (some ⟨2, 0, none⟩) h.length 0), (9, .int .i64 ((h.length : Nat) : Int)), (10, .int .i64 (((j + 1) : Nat) : Int))] [(0, ⟨[.slice (some ⟨2, 0, none⟩) h.length 0], 24, true, 1⟩), (1, ⟨[.int .i64 x, .int .i64 y], 29, true, 2⟩), (2, ⟨(h.flatMap ptc), 29, true, 2⟩), (3, ⟨[.int .i64 s], 3, true, 1⟩), (4, ⟨[.int .i64 0, .int .i64 0], 29, true, 2⟩), (7, ⟨((Sp.fsS h (x, y) s (j + 1)).flatMap ptc), 29, true, 2⟩)] ?_ ⟨rfl, (.ptr _ _ rfl), rfl, (.ptr _ _ rfl), rfl, (.ptr _ _ rfl), rfl, (.ptr _ _ rfl), rfl, (.slice _ _ _ _ _ rfl), rfl, (.slice _ _ _ _ _ rfl), rfl, (.flatB (by kernel_rfl)), rfl, (.flatB (by kernel_rfl)), trivial⟩ ⟨rfl, ⟨rfl, rfl, rfl, (.cons (.slice _ _ _ _ _ rfl) .nil)⟩, rfl, ⟨rfl, rfl, rfl, (.flats (by kernel_rfl))⟩, rfl, ⟨rfl, rfl, rfl, (.flats (flats_pair _))⟩, rfl, ⟨rfl, rfl, rfl, (.flats (by kernel_rfl))⟩, rfl, ⟨rfl, rfl, rfl, (.flats (by kernel_rfl))⟩, rfl, ⟨rfl, rfl, rfl, (.flats (flats_pair _))⟩, trivial⟩
          exact ih2 (j + 1) (show ((j + 1) ≤ h.length) from by omega) (show h.length - (j + 1) < h.length - j from by omega)
        · refine aw_sk ?_
          refine block_normal ?_
          refine then_normal ?_
          refine aw_p1 (
            .p (does_i (((j : Nat) : Int) + 1) (wrap_i64 (by omega) (by omega)) .i64) <| .a 1 9 <| .nil _ _) ?_
          refine then_normal ?_
          refine al_w [(1, .pointer (some ⟨0, 0, none⟩)), (2, .pointer (some ⟨1, 0, none⟩)), (3, .pointer (some ⟨3, 0, none⟩)), (4, .pointer (some ⟨4, 0, none⟩)), (5, .slice (some ⟨7, 0, none⟩) ((Sp.fsS h (x, y) s (j + 1)).length) 0), (8, .slice (some ⟨2, 0, none⟩) h.length 0), (9, .int .i64 ((h.length : Nat) : Int)), (10, .int .i64 (((j : Nat) : Int) + 1))] [(0, ⟨[.slice (some ⟨2, 0, none⟩) h.length 0], 24, true, 1⟩), (1, ⟨[.int .i64 x, .int .i64 y], 29, true, 2⟩), (2, ⟨(h.flatMap ptc), 29, true, 2⟩), (3, ⟨[.int .i64 s], 3, true, 1⟩), (4, ⟨[.int .i64 0, .int .i64 0], 29, true, 2⟩), (7, ⟨((Sp.fsS h (x, y) s (j + 1)).flatMap ptc), 29, true, 2⟩)] ?_ (by (rw [Sp.fsS_no hjl (by assumption)]); kernel_rfl) (by (rw [Sp.fsS_no hjl (by assumption)]); kernel_rfl) (hc := (by simp [closedB, valsB, valB, List.all_eq_true, List.mem_flatMap, List.mem_range, List.mem_map, i64v, ptc, flat1]; try (intros; simp [valsB, valB, flat1]); try decide))
          refine al_w [(1, .pointer (some ⟨0, 0, none⟩)), (2, .pointer (some ⟨1, 0, none⟩)), (3, .pointer (some ⟨3, 0, none⟩)), (4, .pointer (some ⟨4, 0, none⟩)), (5, .slice (some ⟨7, 0, none⟩) ((Sp.fsS h (x, y) s (j + 1)).length) 0), (8, .slice (some ⟨2, 0, none⟩) h.length 0), (9, .int .i64 ((h.length : Nat) : Int)), (10, .int .i64 (((j + 1) : Nat) : Int))] [(0, ⟨[.slice (some ⟨2, 0, none⟩) h.length 0], 24, true, 1⟩), (1, ⟨[.int .i64 x, .int .i64 y], 29, true, 2⟩), (2, ⟨(h.flatMap ptc), 29, true, 2⟩), (3, ⟨[.int .i64 s], 3, true, 1⟩), (4, ⟨[.int .i64 0, .int .i64 0], 29, true, 2⟩), (7, ⟨((Sp.fsS h (x, y) s (j + 1)).flatMap ptc), 29, true, 2⟩)] ?_ (hc := (by simp [closedB, valsB, valB, List.all_eq_true, List.mem_flatMap, List.mem_range, List.mem_map, i64v, ptc, flat1]; try (intros; simp [valsB, valB, flat1]); try decide))
          exact ih2 (j + 1) (show ((j + 1) ≤ h.length) from by omega) (show h.length - (j + 1) < h.length - j from by omega)
      · have h3p : ¬ ((((j : Nat) : Int) < ((h.length : Nat) : Int))) := by first | (simpa using h3) | (have h3q := h3; simp at h3q; omega) | (have h3q := bx2 h3; simp at h3q; omega)
        have hje : j = h.length := by omega
        refine aw_ex 0 ?_
        refine then_exit ?_
        refine then_exit ?_
        refine block_exit ?_
        refine then_normal ?_
        refine aw_w [(2, .pointer (some ⟨1, 0, none⟩)), (4, .pointer (some ⟨4, 0, none⟩)), (5, .slice (some ⟨7, 0, none⟩) F.length 0)] [(0, ⟨[.slice (some ⟨2, 0, none⟩) h.length 0], 24, true, 1⟩), (1, ⟨[.int .i64 x, .int .i64 y], 29, true, 2⟩), (2, ⟨(h.flatMap ptc), 29, true, 2⟩), (4, ⟨[.int .i64 0, .int .i64 0], 29, true, 2⟩), (7, ⟨(F.flatMap ptc), 29, true, 2⟩)] ?_ (by (try rw [show F = Sp.fsS h (x, y) s j from (by rw [hje, Sp.fsS_all]; exact hF.symm)]); kernel_rfl) (by (try rw [show F = Sp.fsS h (x, y) s j from (by rw [hje, Sp.fsS_all]; exact hF.symm)]); kernel_rfl) (hc := (by simp [closedB, valsB, valB, List.all_eq_true, List.mem_flatMap, List.mem_range, List.mem_map, i64v, ptc, flat1]; try (intros; simp [valsB, valB, flat1]); try decide))
        refine aw_p 31 (
          .a 2 8 <|
          .p (does_callB (x := .func 46) (ars := #[.tmp 23, .tmp 24]) (ats := #[24, 52]) (g := 46) (vs := [.slice (some ⟨7, 0, none⟩) F.length 0, .func (.func 47) #[] #[.pointer (some ⟨1, 0, none⟩)]]) (m := 2) (r := 0) (firsts := #[]) (caps := #[]) (args0 := [.slice (some ⟨0, 0, none⟩) F.length 0, .func (.func 47) #[] #[.pointer (some ⟨1, 0, none⟩)]]) (pre0 := [(0, ⟨(F.flatMap ptc), 29, true, 2⟩), (1, ⟨[.int .i64 x, .int .i64 y], 29, true, 2⟩)]) (post0 := [(0, ⟨(F.flatMap ptc), 29, true, 2⟩), (1, ⟨[.int .i64 x, .int .i64 y], 29, true, 2⟩)]) (pre := [(7, ⟨(F.flatMap ptc), 29, true, 2⟩), (1, ⟨[.int .i64 x, .int .i64 y], 29, true, 2⟩)]) (post := [(7, ⟨(F.flatMap ptc), 29, true, 2⟩), (1, ⟨[.int .i64 x, .int .i64 y], 29, true, 2⟩)]) (v0 := .agg #[.int .i64 ((Sp.mnD (x, y) F (F.length - 1)).1), .int .i64 ((Sp.mnD (x, y) F (F.length - 1)).2)]) (v := .agg #[.int .i64 ((Sp.mnD (x, y) F (F.length - 1)).1), .int .i64 ((Sp.mnD (x, y) F (F.length - 1)).2)]) [7, 1] (by kernel_rfl) (by kernel_rfl) (by kernel_rfl) (by kernel_rfl) (mfd_ok F x y hne (by omega) hff bx by1) (.cons (.slice _ _ _ _ _ (by decide)) (.cons (.funcL (.flats (by kernel_rfl)) (.cons (.ptr _ _ (by decide)) .nil)) .nil)) ⟨rfl, ⟨rfl, rfl, rfl, (.flats (flats_pair _))⟩, rfl, ⟨rfl, rfl, rfl, (.flats (by kernel_rfl))⟩, trivial⟩ (by kernel_rfl) (by kernel_rfl) (by kernel_rfl) ⟨rfl, ⟨rfl, rfl, rfl, (.flats (flats_pair _))⟩, rfl, ⟨rfl, rfl, rfl, (.flats (by kernel_rfl))⟩, trivial⟩ (.flatB (by kernel_rfl))) <|
          .a 1 8 <| .nil _ _) ?_
        refine aw_rt ?_
        exact en_ret [.agg #[.int .i64 ((Sp.mnD (x, y) F (F.length - 1)).1), .int .i64 ((Sp.mnD (x, y) F (F.length - 1)).2)]] (by kernel_rfl)
    · refine aw_sk ?_
      refine block_normal ?_
      refine then_normal ?_
      refine aw_p1 (
        .p (does_i (((k : Nat) : Int) + 1) (wrap_i64 (by omega) (by omega)) .i64) <| .a 1 6 <| .nil _ _) ?_
      refine then_normal ?_
      refine al_w [(1, .pointer (some ⟨0, 0, none⟩)), (2, .pointer (some ⟨1, 0, none⟩)), (3, .pointer (some ⟨3, 0, none⟩)), (4, .pointer (some ⟨4, 0, none⟩)), (5, .slice none 0 0), (8, .slice (some ⟨2, 0, none⟩) h.length 0), (9, .int .i64 ((h.length : Nat) : Int)), (10, .int .i64 (((k + 1) : Nat) : Int))] [(0, ⟨[.slice (some ⟨2, 0, none⟩) h.length 0], 24, true, 1⟩), (1, ⟨[.int .i64 x, .int .i64 y], 29, true, 2⟩), (2, ⟨(h.flatMap ptc), 29, true, 2⟩), (3, ⟨[.int .i64 s], 3, true, 1⟩), (4, ⟨[.int .i64 0, .int .i64 0], 29, true, 2⟩)] ?_ (hc := (by simp [closedB, valsB, valB, List.all_eq_true, List.mem_flatMap, List.mem_range, List.mem_map, i64v, ptc, flat1]; try (intros; simp [valsB, valB, flat1]); try decide))
      exact ih1 (k + 1) (show ((k + 1) ≤ h.length) ∧ ((Sp.fsS h (x, y) s (k + 1)) = []) from ⟨by omega, by (rw [Sp.fsS_no hkl (by assumption)]; exact hz0)⟩) (show h.length - (k + 1) < h.length - k from by omega)
  · have h1p : ¬ ((((k : Nat) : Int) < ((h.length : Nat) : Int))) := by first | (simpa using h1) | (have h1q := h1; simp at h1q; omega) | (have h1q := bx2 h1; simp at h1q; omega)
    exact absurd hne (by have q := hz0; rw [show k = h.length from by omega, Sp.fsS_all, hF] at q; rw [q]; decide)


end Go.Proofs.Ytadifmimefmcnaa.Am
