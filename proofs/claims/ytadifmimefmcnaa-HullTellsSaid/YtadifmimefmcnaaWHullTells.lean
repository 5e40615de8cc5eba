/-
  The walk of the law HullTells.
-/
import Derived.Test.YtadifmimefmcnaaProg
import Derived.Test.YtadifmimefmcnaaAm16
import Derived.Test.YtadifmimefmcnaaWHullTells0
import Derived.Test.YtadifmimefmcnaaRj
import Derived.Test.YtadifmimefmcnaaHh
import Derived.Test.YtadifmimefmcnaaHf
import Derived.Test.YtadifmimefmcnaaTq
namespace Go.Proofs.Ytadifmimefmcnaa.Am
open Go Go.Proofs
set_option maxRecDepth 100000
set_option maxHeartbeats 4000000
set_option linter.unusedVariables false
set_option linter.unusedSimpArgs false

theorem hullTells_some (ps h : List (Int × Int)) (hh : Sp.hullF (ps.map Sp.lmP) = h) (h1 : 1 ≤ ps.length) (hz : ps.length ≤ 8796093021952) (x y : Int) :
    AC Try.prog 9 1 ([.slice (some ⟨0, 0, none⟩) ps.length 0, .agg #[.int .i64 x, .int .i64 y]]) [(0, ⟨(ps.flatMap ptc), 29, false, 2⟩)] (.bool true) [] := by
  have hml : 1 ≤ (ps.map Sp.lmP).length := (by rw [List.length_map]; exact h1); have hhl : 1 ≤ h.length := (hh ▸ (Sp.hull_len hml).1); have h1c := h1; have hhu : h.length ≤ 8796093021952 := (by have q := Sp.hull_few (ps := ps.map Sp.lmP) (pts := ps.map Sp.lmP) (fun q => Iff.rfl) hml; rw [hh, List.length_map] at q; omega); have hfh : Sp.Few 1048576 h := Sp.few_sub (by decide) (Sp.few_lim ps) (fun q hq => Sp.hull_sub (hh ▸ hq))
  refine ac_in Try.func9 (fun w0 W pin => ?_)
  refine aw_p 3 (
    .a 2 1 <| .nil _ _) ?_
  refine aw_p 7 (
    .a 1 2 <|
    .p (does_callB (x := .func 38) (ars := #[.tmp 11]) (ats := #[24]) (g := 38) (vs := [.slice (some ⟨0, 0, none⟩) ps.length 0]) (m := 1) (r := 1) (firsts := #[]) (caps := #[]) (args0 := [.slice (some ⟨0, 0, none⟩) ps.length 0]) (pre0 := [(0, ⟨(ps.flatMap ptc), 29, false, 2⟩)]) (post0 := [(1, ⟨(h.flatMap ptc), 29, true, 2⟩)]) (pre := [(0, ⟨(ps.flatMap ptc), 29, false, 2⟩)]) (post := [(2, ⟨(h.flatMap ptc), 29, true, 2⟩)]) (v0 := .slice (some ⟨1, 0, none⟩) h.length 0) (v := .slice (some ⟨2, 0, none⟩) h.length 0) [0, 2] (by kernel_rfl) (by kernel_rfl) (by kernel_rfl) (by kernel_rfl) (rhull_ro ps h hh h1c hz) (.cons (.slice _ _ _ _ _ (by decide)) .nil) ⟨rfl, ⟨rfl, rfl, rfl, (.flats (flats_pair _))⟩, trivial⟩ (by kernel_rfl) (by kernel_rfl) (by kernel_rfl) ⟨rfl, ⟨rfl, rfl, rfl, (.flats (flats_pair _))⟩, trivial⟩ (.slice _ _ _ _ _ (by decide))) <|
    .a 1 3 <| .nil _ _) ?_
  refine aw_sq 14 15 ?_
  refine aw_p 29 (
    .p (does_c (hullBegun1_ok)) <| .a 3 3 <|
    .p (does_callB (x := .func 36) (ars := #[.tmp 16]) (ats := #[24]) (g := 36) (vs := [.slice (some ⟨0, 0, none⟩) ps.length 0]) (m := 1) (r := 1) (firsts := #[]) (caps := #[]) (args0 := [.slice (some ⟨0, 0, none⟩) ps.length 0]) (pre0 := [(0, ⟨(ps.flatMap ptc), 29, false, 2⟩)]) (post0 := [(1, ⟨(h.flatMap ptc), 29, true, 2⟩)]) (pre := [(0, ⟨(ps.flatMap ptc), 29, false, 2⟩)]) (post := [(3, ⟨(h.flatMap ptc), 29, true, 2⟩)]) (v0 := .slice (some ⟨1, 0, none⟩) h.length 0) (v := .slice (some ⟨3, 0, none⟩) h.length 0) [0, 3] (by kernel_rfl) (by kernel_rfl) (by kernel_rfl) (by kernel_rfl) (hull_ro ps h hh h1c hz) (.cons (.slice _ _ _ _ _ (by decide)) .nil) ⟨rfl, ⟨rfl, rfl, rfl, (.flats (flats_pair _))⟩, trivial⟩ (by kernel_rfl) (by kernel_rfl) (by kernel_rfl) ⟨rfl, ⟨rfl, rfl, rfl, (.flats (flats_pair _))⟩, trivial⟩ (.slice _ _ _ _ _ (by decide))) <|
    .a 1 4 <|
    .p (does_callB (x := .func 17) (ars := #[.tmp 17, .tmp 18]) (ats := #[24, 24]) (g := 17) (vs := [.slice (some ⟨3, 0, none⟩) h.length 0, .slice (some ⟨2, 0, none⟩) h.length 0]) (m := 2) (r := 0) (firsts := #[]) (caps := #[]) (args0 := [.slice (some ⟨0, 0, none⟩) h.length 0, .slice (some ⟨1, 0, none⟩) h.length 0]) (pre0 := [(0, ⟨(h.flatMap ptc), 29, true, 2⟩), (1, ⟨(h.flatMap ptc), 29, true, 2⟩)]) (post0 := [(0, ⟨(h.flatMap ptc), 29, true, 2⟩), (1, ⟨(h.flatMap ptc), 29, true, 2⟩)]) (pre := [(3, ⟨(h.flatMap ptc), 29, true, 2⟩), (2, ⟨(h.flatMap ptc), 29, true, 2⟩)]) (post := [(3, ⟨(h.flatMap ptc), 29, true, 2⟩), (2, ⟨(h.flatMap ptc), 29, true, 2⟩)]) (v0 := .bool true) (v := .bool true) [3, 2] (by kernel_rfl) (by kernel_rfl) (by kernel_rfl) (by kernel_rfl) (equal_big h (by omega)) (.cons (.slice _ _ _ _ _ (by decide)) (.cons (.slice _ _ _ _ _ (by decide)) .nil)) ⟨rfl, ⟨rfl, rfl, rfl, (.flats (flats_pair _))⟩, rfl, ⟨rfl, rfl, rfl, (.flats (flats_pair _))⟩, trivial⟩ (by kernel_rfl) (by kernel_rfl) (by kernel_rfl) ⟨rfl, ⟨rfl, rfl, rfl, (.flats (flats_pair _))⟩, rfl, ⟨rfl, rfl, rfl, (.flats (flats_pair _))⟩, trivial⟩ (.flatB (by kernel_rfl))) <|
    .a 2 4 <| .nil _ _) ?_
  refine aw_fl 59 ?_
  refine aw_sk ?_
  refine then_normal ?_
  refine aw_p 31 (
    .a 1 4 <| .nil _ _) ?_
  refine aw_sq 62 63 ?_
  refine aw_p 125 (
    .a 3 4 <| .nil _ _) ?_
  refine aw_bl 0 251 ?_
  refine aw_lp 503 ?_
  refine al_w [(0, .slice (some ⟨0, 0, none⟩) ps.length 0), (3, .pointer (some ⟨1, 0, none⟩)), (4, .bool false), (5, .slice (some ⟨2, 0, none⟩) h.length 0), (6, .int .i64 0), (22, .slice (some ⟨0, 0, none⟩) ps.length 0), (23, .int .i64 ((ps.length : Nat) : Int)), (24, .int .i64 ((0 : Nat) : Int))] [(0, ⟨(ps.flatMap ptc), 29, false, 2⟩), (1, ⟨[.int .i64 x, .int .i64 y], 29, true, 2⟩), (2, ⟨(h.flatMap ptc), 29, true, 2⟩)] ?_ (hc := (by simp [closedB, valsB, valB, List.all_eq_true, List.mem_flatMap, List.mem_range, List.mem_map, i64v, ptc, flat1]; try (intros; simp [valsB, valB, flat1]); try decide))
  refine al_ind (fun i : Nat × Int => (fun (u : Nat) (m : Int) => mkSt 1 [(0, .slice (some ⟨0, 0, none⟩) ps.length 0), (3, .pointer (some ⟨1, 0, none⟩)), (4, .bool false), (5, .slice (some ⟨2, 0, none⟩) h.length 0), (6, .int .i64 m), (22, .slice (some ⟨0, 0, none⟩) ps.length 0), (23, .int .i64 ((ps.length : Nat) : Int)), (24, .int .i64 ((u : Nat) : Int))] [(0, ⟨(ps.flatMap ptc), 29, false, 2⟩), (1, ⟨[.int .i64 x, .int .i64 y], 29, true, 2⟩), (2, ⟨(h.flatMap ptc), 29, true, 2⟩)]) i.1 i.2) (fun i : Nat × Int => (fun (u : Nat) (m : Int) => (u ≤ ps.length) ∧ (m = Sp.faO ps u)) i.1 i.2) (fun i : Nat × Int => (fun (u : Nat) (m : Int) => ps.length - u) i.1 i.2) (fun i hi1 ih1 => ?_) (0, 0) (show (0 ≤ ps.length) ∧ (0 = Sp.faO ps 0) from ⟨by omega, by rfl⟩)
  obtain ⟨u, m⟩ := i
  have hi1' : (u ≤ ps.length) ∧ (m = Sp.faO ps u) := hi1
  obtain ⟨hi, hm⟩ := hi1'
  show AL _ _ _ (mkSt 1 [(0, .slice (some ⟨0, 0, none⟩) ps.length 0), (3, .pointer (some ⟨1, 0, none⟩)), (4, .bool false), (5, .slice (some ⟨2, 0, none⟩) h.length 0), (6, .int .i64 m), (22, .slice (some ⟨0, 0, none⟩) ps.length 0), (23, .int .i64 ((ps.length : Nat) : Int)), (24, .int .i64 ((u : Nat) : Int))] [(0, ⟨(ps.flatMap ptc), 29, false, 2⟩), (1, ⟨[.int .i64 x, .int .i64 y], 29, true, 2⟩), (2, ⟨(h.flatMap ptc), 29, true, 2⟩)]) _
  refine al_round ?_
  refine aw_p 1007 (
    .a 1 4 <| .nil _ _) ?_
  refine aw_sq 2014 2015 ?_
  refine aw_cd 4028 4029 (decide (((u : Nat) : Int) < ((ps.length : Nat) : Int))) (fun h1 => ?_) (fun h1 => ?_)
  · have h1p : ((((u : Nat) : Int) < ((ps.length : Nat) : Int))) := by first | (simpa using h1) | (have h1q := h1; simp at h1q; omega) | (have h1q := bx1 h1; simp at h1q; omega)
    have hul : u < ps.length := by omega
    refine aw_sk ?_
    refine then_normal ?_
    refine aw_sq 4030 4031 ?_
    refine aw_bl 1 8061 ?_
    refine aw_p 16123 (
      .p (does_indexSlice (t := 24) (x := .tmp 22) (y := .tmp 24) (k := 0) (off := 0) (n := ps.length) (c := 0) (z := 2) (kd := .i64) (j := ((u : Nat) : Int)) (by kernel_rfl) (by kernel_rfl) (by kernel_rfl) (by kernel_rfl) (by kernel_rfl) (by omega) (by omega)) <|
      .p (does_load (t := 29) (x := .tmp 26) (k := 0) (off := (0 + (((u : Nat) : Int)).toNat * 2)) (b := ⟨(ps.flatMap ptc), 29, false, 2⟩) (v := .agg #[.int .i64 ((ps.getD u (0, 0)).1), .int .i64 ((ps.getD u (0, 0)).2)]) (by kernel_rfl) (by kernel_rfl) (by kernel_rfl) (ldV_pair (j := u) (by kernel_rfl) (by kernel_rfl) (by omega) (by omega))) <|
      .a 2 4 <| .nil _ _) ?_
    refine aw_p 32247 (
      .a 3 5 <| .nil _ _) ?_
    refine aw_bl 2 64495 ?_
    refine aw_lp 128991 ?_
    refine al_w [(0, .slice (some ⟨0, 0, none⟩) ps.length 0), (3, .pointer (some ⟨1, 0, none⟩)), (4, .bool false), (5, .slice (some ⟨2, 0, none⟩) h.length 0), (6, .int .i64 m), (8, .pointer (some ⟨4, 0, none⟩)), (22, .slice (some ⟨0, 0, none⟩) ps.length 0), (23, .int .i64 ((ps.length : Nat) : Int)), (24, .int .i64 ((u : Nat) : Int)), (28, .slice (some ⟨0, 0, none⟩) ps.length 0), (29, .int .i64 ((ps.length : Nat) : Int)), (30, .int .i64 ((0 : Nat) : Int))] [(0, ⟨(ps.flatMap ptc), 29, false, 2⟩), (1, ⟨[.int .i64 x, .int .i64 y], 29, true, 2⟩), (2, ⟨(h.flatMap ptc), 29, true, 2⟩), (4, ⟨[.int .i64 ((ps.getD u (0, 0)).1), .int .i64 ((ps.getD u (0, 0)).2)], 29, true, 2⟩)] ?_ (hc := (by simp [closedB, valsB, valB, List.all_eq_true, List.mem_flatMap, List.mem_range, List.mem_map, i64v, ptc, flat1]; try (intros; simp [valsB, valB, flat1]); try decide))
    refine al_ind (fun i : Nat × Int => (fun (k : Nat) (m2 : Int) => mkSt 1 [(0, .slice (some ⟨0, 0, none⟩) ps.length 0), (3, .pointer (some ⟨1, 0, none⟩)), (4, .bool false), (5, .slice (some ⟨2, 0, none⟩) h.length 0), (6, .int .i64 m2), (8, .pointer (some ⟨4, 0, none⟩)), (22, .slice (some ⟨0, 0, none⟩) ps.length 0), (23, .int .i64 ((ps.length : Nat) : Int)), (24, .int .i64 ((u : Nat) : Int)), (28, .slice (some ⟨0, 0, none⟩) ps.length 0), (29, .int .i64 ((ps.length : Nat) : Int)), (30, .int .i64 ((k : Nat) : Int))] [(0, ⟨(ps.flatMap ptc), 29, false, 2⟩), (1, ⟨[.int .i64 x, .int .i64 y], 29, true, 2⟩), (2, ⟨(h.flatMap ptc), 29, true, 2⟩), (4, ⟨[.int .i64 ((ps.getD u (0, 0)).1), .int .i64 ((ps.getD u (0, 0)).2)], 29, true, 2⟩)]) i.1 i.2) (fun i : Nat × Int => (fun (k : Nat) (m2 : Int) => (k ≤ ps.length) ∧ (m2 = Sp.faI ps u m k)) i.1 i.2) (fun i : Nat × Int => (fun (k : Nat) (m2 : Int) => ps.length - k) i.1 i.2) (fun i hi2 ih2 => ?_) (0, m) (show (0 ≤ ps.length) ∧ (m = Sp.faI ps u m 0) from ⟨by omega, by rfl⟩)
    obtain ⟨k, m2⟩ := i
    have hi2' : (k ≤ ps.length) ∧ (m2 = Sp.faI ps u m k) := hi2
    obtain ⟨hk, hm2⟩ := hi2'
    show AL _ _ _ (mkSt 1 [(0, .slice (some ⟨0, 0, none⟩) ps.length 0), (3, .pointer (some ⟨1, 0, none⟩)), (4, .bool false), (5, .slice (some ⟨2, 0, none⟩) h.length 0), (6, .int .i64 m2), (8, .pointer (some ⟨4, 0, none⟩)), (22, .slice (some ⟨0, 0, none⟩) ps.length 0), (23, .int .i64 ((ps.length : Nat) : Int)), (24, .int .i64 ((u : Nat) : Int)), (28, .slice (some ⟨0, 0, none⟩) ps.length 0), (29, .int .i64 ((ps.length : Nat) : Int)), (30, .int .i64 ((k : Nat) : Int))] [(0, ⟨(ps.flatMap ptc), 29, false, 2⟩), (1, ⟨[.int .i64 x, .int .i64 y], 29, true, 2⟩), (2, ⟨(h.flatMap ptc), 29, true, 2⟩), (4, ⟨[.int .i64 ((ps.getD u (0, 0)).1), .int .i64 ((ps.getD u (0, 0)).2)], 29, true, 2⟩)]) _
    refine al_round ?_
    refine aw_p 257983 (
      .a 1 5 <| .nil _ _) ?_
    refine aw_sq 515966 515967 ?_
    refine aw_cd 1031932 1031933 (decide (((k : Nat) : Int) < ((ps.length : Nat) : Int))) (fun h2 => ?_) (fun h2 => ?_)
    · have h2p : ((((k : Nat) : Int) < ((ps.length : Nat) : Int))) := by first | (simpa using h2) | (have h2q := h2; simp at h2q; omega) | (have h2q := bx1 h2; simp at h2q; omega)
      have hkl : k < ps.length := by omega
      refine aw_sk ?_
      refine then_normal ?_
      refine aw_sq 1031934 1031935 ?_
      refine aw_bl 3 2063869 ?_
      refine aw_p 4127739 (
        .p (does_indexSlice (t := 24) (x := .tmp 28) (y := .tmp 30) (k := 0) (off := 0) (n := ps.length) (c := 0) (z := 2) (kd := .i64) (j := ((k : Nat) : Int)) (by kernel_rfl) (by kernel_rfl) (by kernel_rfl) (by kernel_rfl) (by kernel_rfl) (by omega) (by omega)) <|
        .p (does_load (t := 29) (x := .tmp 32) (k := 0) (off := (0 + (((k : Nat) : Int)).toNat * 2)) (b := ⟨(ps.flatMap ptc), 29, false, 2⟩) (v := .agg #[.int .i64 ((ps.getD k (0, 0)).1), .int .i64 ((ps.getD k (0, 0)).2)]) (by kernel_rfl) (by kernel_rfl) (by kernel_rfl) (ldV_pair (j := k) (by kernel_rfl) (by kernel_rfl) (by omega) (by omega))) <|
        .a 2 5 <| .nil _ _) ?_
      refine aw_p1 (
        .a 3 6 <| .p (does_c (rfar_ok ((ps.getD u (0, 0)).1) ((ps.getD u (0, 0)).2) ((ps.getD k (0, 0)).1) ((ps.getD k (0, 0)).2))) <| .a 2 6 <| .nil _ _) ?_
      refine block_normal ?_
      refine then_normal ?_
      refine aw_p1 (
        .p (does_i (((k : Nat) : Int) + 1) (wrap_i64 (by omega) (by omega)) .i64) <| .a 1 6 <| .nil _ _) ?_
      refine then_normal ?_
      refine al_w [(0, .slice (some ⟨0, 0, none⟩) ps.length 0), (3, .pointer (some ⟨1, 0, none⟩)), (4, .bool false), (5, .slice (some ⟨2, 0, none⟩) h.length 0), (6, .int .i64 (Sp.mx m2 (Sp.dot (Sp.lim 1048576 ((ps.getD u (0, 0)).1)) (Sp.lim 1048576 ((ps.getD u (0, 0)).2)) (Sp.lim 1048576 ((ps.getD k (0, 0)).1)) (Sp.lim 1048576 ((ps.getD k (0, 0)).2)) (Sp.lim 1048576 ((ps.getD k (0, 0)).1)) (Sp.lim 1048576 ((ps.getD k (0, 0)).2))))), (8, .pointer (some ⟨4, 0, none⟩)), (22, .slice (some ⟨0, 0, none⟩) ps.length 0), (23, .int .i64 ((ps.length : Nat) : Int)), (24, .int .i64 ((u : Nat) : Int)), (28, .slice (some ⟨0, 0, none⟩) ps.length 0), (29, .int .i64 ((ps.length : Nat) : Int)), (30, .int .i64 (((k + 1) : Nat) : Int))] [(0, ⟨(ps.flatMap ptc), 29, false, 2⟩), (1, ⟨[.int .i64 x, .int .i64 y], 29, true, 2⟩), (2, ⟨(h.flatMap ptc), 29, true, 2⟩), (4, ⟨[.int .i64 ((ps.getD u (0, 0)).1), .int .i64 ((ps.getD u (0, 0)).2)], 29, true, 2⟩)] ?_ (hc := (by simp [closedB, valsB, valB, List.all_eq_true, List.mem_flatMap, List.mem_range, List.mem_map, i64v, ptc, flat1]; try (intros; simp [valsB, valB, flat1]); try decide))
      exact ih2 ((k + 1), (Sp.mx m2 (Sp.dot (Sp.lim 1048576 ((ps.getD u (0, 0)).1)) (Sp.lim 1048576 ((ps.getD u (0, 0)).2)) (Sp.lim 1048576 ((ps.getD k (0, 0)).1)) (Sp.lim 1048576 ((ps.getD k (0, 0)).2)) (Sp.lim 1048576 ((ps.getD k (0, 0)).1)) (Sp.lim 1048576 ((ps.getD k (0, 0)).2))))) (show ((k + 1) ≤ ps.length) ∧ ((Sp.mx m2 (Sp.dot (Sp.lim 1048576 ((ps.getD u (0, 0)).1)) (Sp.lim 1048576 ((ps.getD u (0, 0)).2)) (Sp.lim 1048576 ((ps.getD k (0, 0)).1)) (Sp.lim 1048576 ((ps.getD k (0, 0)).2)) (Sp.lim 1048576 ((ps.getD k (0, 0)).1)) (Sp.lim 1048576 ((ps.getD k (0, 0)).2)))) = Sp.faI ps u m (k + 1)) from ⟨by omega, by (exact Sp.faI_go hm2)⟩) (show ps.length - (k + 1) < ps.length - k from by omega)
    · have h2p : ¬ ((((k : Nat) : Int) < ((ps.length : Nat) : Int))) := by first | (simpa using h2) | (have h2q := h2; simp at h2q; omega) | (have h2q := bx2 h2; simp at h2q; omega)
      have hke : k = ps.length := by omega
      refine aw_ex 2 ?_
      refine then_exit ?_
      refine then_exit ?_
      refine block_exit ?_
      refine block_normal ?_
      refine then_normal ?_
      refine aw_p1 (
        .p (does_i (((u : Nat) : Int) + 1) (wrap_i64 (by omega) (by omega)) .i64) <| .a 1 5 <| .nil _ _) ?_
      refine then_normal ?_
      refine al_w [(0, .slice (some ⟨0, 0, none⟩) ps.length 0), (3, .pointer (some ⟨1, 0, none⟩)), (4, .bool false), (5, .slice (some ⟨2, 0, none⟩) h.length 0), (6, .int .i64 m2), (22, .slice (some ⟨0, 0, none⟩) ps.length 0), (23, .int .i64 ((ps.length : Nat) : Int)), (24, .int .i64 (((u + 1) : Nat) : Int))] [(0, ⟨(ps.flatMap ptc), 29, false, 2⟩), (1, ⟨[.int .i64 x, .int .i64 y], 29, true, 2⟩), (2, ⟨(h.flatMap ptc), 29, true, 2⟩)] ?_ (hc := (by simp [closedB, valsB, valB, List.all_eq_true, List.mem_flatMap, List.mem_range, List.mem_map, i64v, ptc, flat1]; try (intros; simp [valsB, valB, flat1]); try decide))
      exact ih1 ((u + 1), m2) (show ((u + 1) ≤ ps.length) ∧ (m2 = Sp.faO ps (u + 1)) from ⟨by omega, by (exact Sp.faO_go hm hm2 hke)⟩) (show ps.length - (u + 1) < ps.length - u from by omega)
  · have h1p : ¬ ((((u : Nat) : Int) < ((ps.length : Nat) : Int))) := by first | (simpa using h1) | (have h1q := h1; simp at h1q; omega) | (have h1q := bx2 h1; simp at h1q; omega)
    have hue : u = ps.length := by omega
    refine aw_ex 0 ?_
    refine then_exit ?_
    refine then_exit ?_
    refine block_exit ?_
    refine then_normal ?_
    refine aw_d 127 (
      .a 1 4 <|
      .p (does_callB (x := .func 37) (ars := #[.tmp 41]) (ats := #[24]) (g := 37) (vs := [.slice (some ⟨0, 0, none⟩) ps.length 0]) (m := 1) (r := 0) (firsts := #[]) (caps := #[]) (args0 := [.slice (some ⟨0, 0, none⟩) ps.length 0]) (pre0 := [(0, ⟨(ps.flatMap ptc), 29, false, 2⟩)]) (post0 := []) (pre := [(0, ⟨(ps.flatMap ptc), 29, false, 2⟩)]) (post := []) (v0 := .int .i64 (Sp.farF h 0 0)) (v := .int .i64 (Sp.farF h 0 0)) [0] (by kernel_rfl) (by kernel_rfl) (by kernel_rfl) (by kernel_rfl) (hullfar_ro ps h hh h1c hz (by omega) hfh) (.cons (.slice _ _ _ _ _ (by decide)) .nil) ⟨rfl, ⟨rfl, rfl, rfl, (.flats (flats_pair _))⟩, trivial⟩ (by kernel_rfl) (by kernel_rfl) (by kernel_rfl) trivial (.flatB (by kernel_rfl))) <|
      .a 1 4 <| .p (does_b true ((show ((Sp.farF h 0 0) == m) = true from (beq_iff_eq.2 (by rw [hm, hue, ← hh]; exact Sp.far_same h1c))))) <| .a 3 4 <|
      .p (does_callB (x := .func 34) (ars := #[.tmp 46, .tmp 47]) (ats := #[24, 29]) (g := 34) (vs := [.slice (some ⟨0, 0, none⟩) ps.length 0, .agg #[.int .i64 x, .int .i64 y]]) (m := 1) (r := 0) (firsts := #[]) (caps := #[]) (args0 := [.slice (some ⟨0, 0, none⟩) ps.length 0, .agg #[.int .i64 x, .int .i64 y]]) (pre0 := [(0, ⟨(ps.flatMap ptc), 29, false, 2⟩)]) (post0 := []) (pre := [(0, ⟨(ps.flatMap ptc), 29, false, 2⟩)]) (post := []) (v0 := .bool (Sp.hasH h (Sp.lim 1048576 x) (Sp.lim 1048576 y))) (v := .bool (Sp.hasH h (Sp.lim 1048576 x) (Sp.lim 1048576 y))) [0] (by kernel_rfl) (by kernel_rfl) (by kernel_rfl) (by kernel_rfl) ((by have q := hullhas_ro ps h hh h1c hz x y (by omega) hfh; skip; exact q)) (.cons (.slice _ _ _ _ _ (by decide)) (.cons (.flatB (by kernel_rfl)) .nil)) ⟨rfl, ⟨rfl, rfl, rfl, (.flats (flats_pair _))⟩, trivial⟩ (by kernel_rfl) (by kernel_rfl) (by kernel_rfl) trivial (.flatB (by kernel_rfl))) <|
      .a 2 4 <|
      .p (does_callB (x := .func 41) (ars := #[.tmp 49, .tmp 50]) (ats := #[24, 29]) (g := 41) (vs := [.slice (some ⟨2, 0, none⟩) h.length 0, .agg #[.int .i64 x, .int .i64 y]]) (m := 1) (r := 0) (firsts := #[]) (caps := #[]) (args0 := [.slice (some ⟨0, 0, none⟩) h.length 0, .agg #[.int .i64 x, .int .i64 y]]) (pre0 := [(0, ⟨(h.flatMap ptc), 29, true, 2⟩)]) (post0 := [(0, ⟨(h.flatMap ptc), 29, true, 2⟩)]) (pre := [(2, ⟨(h.flatMap ptc), 29, true, 2⟩)]) (post := [(2, ⟨(h.flatMap ptc), 29, true, 2⟩)]) (v0 := .bool (Sp.hasH h (Sp.lim 1048576 x) (Sp.lim 1048576 y))) (v := .bool (Sp.hasH h (Sp.lim 1048576 x) (Sp.lim 1048576 y))) [2] (by kernel_rfl) (by kernel_rfl) (by kernel_rfl) (by kernel_rfl) (hulledw (ps.map Sp.lmP) h hh ⟨hhl, by omega⟩ hfh x y) (.cons (.slice _ _ _ _ _ (by decide)) (.cons (.flatB (by kernel_rfl)) .nil)) ⟨rfl, ⟨rfl, rfl, rfl, (.flats (flats_pair _))⟩, trivial⟩ (by kernel_rfl) (by kernel_rfl) (by kernel_rfl) ⟨rfl, ⟨rfl, rfl, rfl, (.flats (flats_pair _))⟩, trivial⟩ (.flatB (by kernel_rfl))) <|
      .p (does_b true ((show ((Sp.hasH h (Sp.lim 1048576 x) (Sp.lim 1048576 y)) == (Sp.hasH h (Sp.lim 1048576 x) (Sp.lim 1048576 y))) = true from by simp))) <| .a 2 4 <| .nil _ _) ?_
    refine aw_rt ?_
    exact en_ret [.bool true] (by kernel_rfl)


theorem hullTells_ok (ps : List (Int × Int)) (hz : ps.length ≤ 8796093021952) (x y : Int) : AC Try.prog 9 1 [.slice (some ⟨0, 0, none⟩) ps.length 0, .agg #[.int .i64 x, .int .i64 y]] [(0, ⟨(ps.flatMap ptc), 29, false, 2⟩)] (.bool true) [] := by
  rcases Nat.eq_zero_or_pos ps.length with c | c
  · have e := List.length_eq_zero_iff.1 c
    subst e
    exact hullTells_nil x y
  · exact hullTells_some ps _ rfl c hz x y
end Go.Proofs.Ytadifmimefmcnaa.Am
