/-
  The walks of the document's lines of sight, second part.
-/
import Derived.Test.YtadifmimefmcnaaProg
import Derived.Test.YtadifmimefmcnaaAm16
import Derived.Test.YtadifmimefmcnaaSa
namespace Go.Proofs.Ytadifmimefmcnaa.Am
open Go Go.Proofs
set_option maxRecDepth 100000
set_option maxHeartbeats 4000000
set_option linter.unusedVariables false
set_option linter.unusedSimpArgs false

theorem ixs_ok (h : List (Int × Int)) (x y qx qy s : Int) (hn : 1 ≤ h.length) (hz : h.length ≤ 8796093021952) (hfh : Sp.Few 1048576 h) (bx : -1048576 ≤ x ∧ x ≤ 1048576) (by1 : -1048576 ≤ y ∧ y ≤ 1048576) (bqx : -1048576 ≤ qx ∧ qx ≤ 1048576) (bqy : -1048576 ≤ qy ∧ qy ≤ 1048576) (hs : s = 1 ∨ s = -1) :
    AC Try.prog 58 4 ([.slice (some ⟨0, 0, none⟩) h.length 0, .func (.func 44) #[] #[.pointer (some ⟨1, 0, none⟩), .pointer (some ⟨2, 0, none⟩), .pointer (some ⟨3, 0, none⟩)]]) [(0, ⟨(h.flatMap ptc), 29, true, 2⟩), (1, ⟨[.int .i64 x, .int .i64 y], 29, true, 2⟩), (2, ⟨[.int .i64 qx, .int .i64 qy], 29, true, 2⟩), (3, ⟨[.int .i64 s], 3, true, 1⟩)] (.int .i64 (Sp.ixF (Sp.sdf (x, y) (qx, qy) s) h 0)) [(0, ⟨(h.flatMap ptc), 29, true, 2⟩), (1, ⟨[.int .i64 x, .int .i64 y], 29, true, 2⟩), (2, ⟨[.int .i64 qx, .int .i64 qy], 29, true, 2⟩), (3, ⟨[.int .i64 s], 3, true, 1⟩)] := by
  refine ac_in Try.func58 (fun w0 W pin => ?_)
  refine aw_p 3 (
    .a 1 4 <| .nil _ _) ?_
  refine aw_sq 6 7 ?_
  refine aw_p 13 (
    .a 3 4 <| .nil _ _) ?_
  refine aw_bl 0 27 ?_
  refine aw_lp 55 ?_
  refine al_w [(0, .slice (some ⟨0, 0, none⟩) h.length 0), (1, .func (.func 44) #[] #[.pointer (some ⟨1, 0, none⟩), .pointer (some ⟨2, 0, none⟩), .pointer (some ⟨3, 0, none⟩)]), (7, .int .i64 ((h.length : Nat) : Int)), (8, .int .i64 ((0 : Nat) : Int))] [(0, ⟨(h.flatMap ptc), 29, true, 2⟩), (1, ⟨[.int .i64 x, .int .i64 y], 29, true, 2⟩), (2, ⟨[.int .i64 qx, .int .i64 qy], 29, true, 2⟩), (3, ⟨[.int .i64 s], 3, true, 1⟩)] ?_ (hc := (by simp [closedB, valsB, valB, List.all_eq_true, List.mem_flatMap, List.mem_range, List.mem_map, i64v, ptc, flat1]; try (intros; simp [valsB, valB, flat1]); try decide))
  refine al_ind (fun i : Nat => (fun (i : Nat) => mkSt 4 [(0, .slice (some ⟨0, 0, none⟩) h.length 0), (1, .func (.func 44) #[] #[.pointer (some ⟨1, 0, none⟩), .pointer (some ⟨2, 0, none⟩), .pointer (some ⟨3, 0, none⟩)]), (7, .int .i64 ((h.length : Nat) : Int)), (8, .int .i64 ((i : Nat) : Int))] [(0, ⟨(h.flatMap ptc), 29, true, 2⟩), (1, ⟨[.int .i64 x, .int .i64 y], 29, true, 2⟩), (2, ⟨[.int .i64 qx, .int .i64 qy], 29, true, 2⟩), (3, ⟨[.int .i64 s], 3, true, 1⟩)]) i) (fun i : Nat => (fun (i : Nat) => (i ≤ h.length) ∧ (Sp.ixF (Sp.sdf (x, y) (qx, qy) s) h i = Sp.ixF (Sp.sdf (x, y) (qx, qy) s) h 0)) i) (fun i : Nat => (fun (i : Nat) => h.length - i) i) (fun i hi1 ih1 => ?_) 0 (show (0 ≤ h.length) ∧ (Sp.ixF (Sp.sdf (x, y) (qx, qy) s) h 0 = Sp.ixF (Sp.sdf (x, y) (qx, qy) s) h 0) from ⟨by omega, by rfl⟩)
  obtain ⟨i, hv1⟩ : ∃ z, z = i := ⟨i, rfl⟩; subst hv1
  have hi1' : (i ≤ h.length) ∧ (Sp.ixF (Sp.sdf (x, y) (qx, qy) s) h i = Sp.ixF (Sp.sdf (x, y) (qx, qy) s) h 0) := hi1
  obtain ⟨hi, hh⟩ := hi1'
  show AL _ _ _ (mkSt 4 [(0, .slice (some ⟨0, 0, none⟩) h.length 0), (1, .func (.func 44) #[] #[.pointer (some ⟨1, 0, none⟩), .pointer (some ⟨2, 0, none⟩), .pointer (some ⟨3, 0, none⟩)]), (7, .int .i64 ((h.length : Nat) : Int)), (8, .int .i64 ((i : Nat) : Int))] [(0, ⟨(h.flatMap ptc), 29, true, 2⟩), (1, ⟨[.int .i64 x, .int .i64 y], 29, true, 2⟩), (2, ⟨[.int .i64 qx, .int .i64 qy], 29, true, 2⟩), (3, ⟨[.int .i64 s], 3, true, 1⟩)]) _
  have fi := hfh i
  refine al_round ?_
  refine aw_p 111 (
    .a 1 4 <| .nil _ _) ?_
  refine aw_sq 222 223 ?_
  refine aw_cd 444 445 (decide (((i : Nat) : Int) < ((h.length : Nat) : Int))) (fun h1 => ?_) (fun h1 => ?_)
  · have h1p : ((((i : Nat) : Int) < ((h.length : Nat) : Int))) := by first | (simpa using h1) | (have h1q := h1; simp at h1q; omega) | (have h1q := bx1 h1; simp at h1q; omega)
    have hil : i < h.length := by omega
    refine aw_sk ?_
    refine then_normal ?_
    refine aw_sq 446 447 ?_
    refine aw_bl 1 893 ?_
    refine aw_p 1787 (
      .a 2 4 <| .nil _ _) ?_
    refine aw_p 3575 (
      .a 3 4 <| .p (does_indexSlice (t := 24) (x := .tmp 12) (y := .tmp 13) (k := 0) (off := 0) (n := h.length) (c := 0) (z := 2) (kd := .i64) (j := ((i : Nat) : Int)) (by kernel_rfl) (by kernel_rfl) (by kernel_rfl) (by kernel_rfl) (by kernel_rfl) (by omega) (by omega)) <|
      .p (does_load (t := 29) (x := .tmp 14) (k := 0) (off := (0 + (((i : Nat) : Int)).toNat * 2)) (b := ⟨(h.flatMap ptc), 29, true, 2⟩) (v := .agg #[.int .i64 ((h.getD i (0, 0)).1), .int .i64 ((h.getD i (0, 0)).2)]) (by kernel_rfl) (by kernel_rfl) (by kernel_rfl) (ldV_pair (j := i) (by kernel_rfl) (by kernel_rfl) (by omega) (by omega))) <|
      .p (does_callB (x := .tmp 11) (ars := #[.tmp 15]) (ats := #[29]) (g := 44) (vs := [.agg #[.int .i64 ((h.getD i (0, 0)).1), .int .i64 ((h.getD i (0, 0)).2)]]) (m := 3) (r := 0) (firsts := #[]) (caps := #[.pointer (some ⟨1, 0, none⟩), .pointer (some ⟨2, 0, none⟩), .pointer (some ⟨3, 0, none⟩)]) (args0 := [.agg #[.int .i64 ((h.getD i (0, 0)).1), .int .i64 ((h.getD i (0, 0)).2)], .pointer (some ⟨0, 0, none⟩), .pointer (some ⟨1, 0, none⟩), .pointer (some ⟨2, 0, none⟩)]) (pre0 := [(0, ⟨[.int .i64 x, .int .i64 y], 29, true, 2⟩), (1, ⟨[.int .i64 qx, .int .i64 qy], 29, true, 2⟩), (2, ⟨[.int .i64 s], 3, true, 1⟩)]) (post0 := [(0, ⟨[.int .i64 x, .int .i64 y], 29, true, 2⟩), (1, ⟨[.int .i64 qx, .int .i64 qy], 29, true, 2⟩), (2, ⟨[.int .i64 s], 3, true, 1⟩)]) (pre := [(1, ⟨[.int .i64 x, .int .i64 y], 29, true, 2⟩), (2, ⟨[.int .i64 qx, .int .i64 qy], 29, true, 2⟩), (3, ⟨[.int .i64 s], 3, true, 1⟩)]) (post := [(1, ⟨[.int .i64 x, .int .i64 y], 29, true, 2⟩), (2, ⟨[.int .i64 qx, .int .i64 qy], 29, true, 2⟩), (3, ⟨[.int .i64 s], 3, true, 1⟩)]) (v0 := .bool (Sp.sdf (x, y) (qx, qy) s ((h.getD i (0, 0)).1, (h.getD i (0, 0)).2))) (v := .bool (Sp.sdf (x, y) (qx, qy) s ((h.getD i (0, 0)).1, (h.getD i (0, 0)).2))) [1, 2, 3] (by kernel_rfl) (by kernel_rfl) (by kernel_rfl) (by kernel_rfl) (sd_ok ((h.getD i (0, 0)).1) ((h.getD i (0, 0)).2) x y qx qy s fi.1 fi.2 bx by1 bqx bqy hs) (.cons (.flatB (by kernel_rfl)) (.cons (.ptr _ _ (by decide)) (.cons (.ptr _ _ (by decide)) (.cons (.ptr _ _ (by decide)) .nil)))) ⟨rfl, ⟨rfl, rfl, rfl, (.flats (by kernel_rfl))⟩, rfl, ⟨rfl, rfl, rfl, (.flats (by kernel_rfl))⟩, rfl, ⟨rfl, rfl, rfl, (.flats (by kernel_rfl))⟩, trivial⟩ (by kernel_rfl) (by kernel_rfl) (by kernel_rfl) ⟨rfl, ⟨rfl, rfl, rfl, (.flats (by kernel_rfl))⟩, rfl, ⟨rfl, rfl, rfl, (.flats (by kernel_rfl))⟩, rfl, ⟨rfl, rfl, rfl, (.flats (by kernel_rfl))⟩, trivial⟩ (.flatB (by kernel_rfl))) <| .nil _ _) ?_
    refine aw_cd 7150 7151 (Sp.sdf (x, y) (qx, qy) s ((h.getD i (0, 0)).1, (h.getD i (0, 0)).2)) (fun h2 => ?_) (fun h2 => ?_)
    · refine aw_p 14301 (
        .a 2 4 <| .nil _ _) ?_
      refine aw_rt ?_
      refine block_ret ?_
      refine then_ret ?_
      refine then_ret ?_
      refine block_ret ?_
      refine then_ret ?_
      exact en_ret [.int .i64 ((i : Nat) : Int)] (show (.int .i64 ((i : Nat) : Int) : Value) = (.int .i64 (Sp.ixF (Sp.sdf (x, y) (qx, qy) s) h 0)) from (congrArg (Value.int .i64) (show ((i : Nat) : Int) = (Sp.ixF (Sp.sdf (x, y) (qx, qy) s) h 0) from by (first | exact (by rw [← hh, Sp.ixF_yes hil (by assumption)]) | exact (by rw [← hh, Sp.ixF_end hge])))))
    · refine aw_sk ?_
      refine block_normal ?_
      refine then_normal ?_
      refine aw_p1 (
        .p (does_i (((i : Nat) : Int) + 1) (wrap_i64 (by omega) (by omega)) .i64) <| .a 1 4 <| .nil _ _) ?_
      refine then_normal ?_
      refine al_w [(0, .slice (some ⟨0, 0, none⟩) h.length 0), (1, .func (.func 44) #[] #[.pointer (some ⟨1, 0, none⟩), .pointer (some ⟨2, 0, none⟩), .pointer (some ⟨3, 0, none⟩)]), (7, .int .i64 ((h.length : Nat) : Int)), (8, .int .i64 (((i + 1) : Nat) : Int))] [(0, ⟨(h.flatMap ptc), 29, true, 2⟩), (1, ⟨[.int .i64 x, .int .i64 y], 29, true, 2⟩), (2, ⟨[.int .i64 qx, .int .i64 qy], 29, true, 2⟩), (3, ⟨[.int .i64 s], 3, true, 1⟩)] ?_ (hc := (by simp [closedB, valsB, valB, List.all_eq_true, List.mem_flatMap, List.mem_range, List.mem_map, i64v, ptc, flat1]; try (intros; simp [valsB, valB, flat1]); try decide))
      exact ih1 (i + 1) (show ((i + 1) ≤ h.length) ∧ (Sp.ixF (Sp.sdf (x, y) (qx, qy) s) h (i + 1) = Sp.ixF (Sp.sdf (x, y) (qx, qy) s) h 0) from ⟨by omega, by (rw [← hh]; exact Sp.ixF_no hil (by assumption))⟩) (show h.length - (i + 1) < h.length - i from by omega)
  · have h1p : ¬ ((((i : Nat) : Int) < ((h.length : Nat) : Int))) := by first | (simpa using h1) | (have h1q := h1; simp at h1q; omega) | (have h1q := bx2 h1; simp at h1q; omega)
    have hge : ¬ i < h.length := by omega
    refine aw_ex 0 ?_
    refine then_exit ?_
    refine then_exit ?_
    refine block_exit ?_
    refine then_normal ?_
    refine aw_p 15 (
      .a 1 4 <| .nil _ _) ?_
    refine aw_rt ?_
    exact en_ret [.int .i64 (-1)] (show (.int .i64 (-1) : Value) = (.int .i64 (Sp.ixF (Sp.sdf (x, y) (qx, qy) s) h 0)) from (congrArg (Value.int .i64) (show (-1) = (Sp.ixF (Sp.sdf (x, y) (qx, qy) s) h 0) from by (first | exact (by rw [← hh, Sp.ixF_yes hil (by assumption)]) | exact (by rw [← hh, Sp.ixF_end hge])))))

theorem cts_ok (h : List (Int × Int)) (x y qx qy s : Int) (hn : 1 ≤ h.length) (hz : h.length ≤ 8796093021952) (hfh : Sp.Few 1048576 h) (bx : -1048576 ≤ x ∧ x ≤ 1048576) (by1 : -1048576 ≤ y ∧ y ≤ 1048576) (bqx : -1048576 ≤ qx ∧ qx ≤ 1048576) (bqy : -1048576 ≤ qy ∧ qy ≤ 1048576) (hs : s = 1 ∨ s = -1) :
    AC Try.prog 19 4 ([.slice (some ⟨0, 0, none⟩) h.length 0, .func (.func 44) #[] #[.pointer (some ⟨1, 0, none⟩), .pointer (some ⟨2, 0, none⟩), .pointer (some ⟨3, 0, none⟩)]]) [(0, ⟨(h.flatMap ptc), 29, true, 2⟩), (1, ⟨[.int .i64 x, .int .i64 y], 29, true, 2⟩), (2, ⟨[.int .i64 qx, .int .i64 qy], 29, true, 2⟩), (3, ⟨[.int .i64 s], 3, true, 1⟩)] (.bool (h.any (Sp.sdf (x, y) (qx, qy) s))) [(0, ⟨(h.flatMap ptc), 29, true, 2⟩), (1, ⟨[.int .i64 x, .int .i64 y], 29, true, 2⟩), (2, ⟨[.int .i64 qx, .int .i64 qy], 29, true, 2⟩), (3, ⟨[.int .i64 s], 3, true, 1⟩)] := by
  refine ac_in Try.func19 (fun w0 W pin => ?_)
  refine aw_p 3 (
    .a 1 4 <| .nil _ _) ?_
  refine aw_p 7 (
    .a 2 4 <|
    .p (does_callB (x := .func 58) (ars := #[.tmp 5, .tmp 6]) (ats := #[24, 34]) (g := 58) (vs := [.slice (some ⟨0, 0, none⟩) h.length 0, .func (.func 44) #[] #[.pointer (some ⟨1, 0, none⟩), .pointer (some ⟨2, 0, none⟩), .pointer (some ⟨3, 0, none⟩)]]) (m := 4) (r := 0) (firsts := #[]) (caps := #[]) (args0 := [.slice (some ⟨0, 0, none⟩) h.length 0, .func (.func 44) #[] #[.pointer (some ⟨1, 0, none⟩), .pointer (some ⟨2, 0, none⟩), .pointer (some ⟨3, 0, none⟩)]]) (pre0 := [(0, ⟨(h.flatMap ptc), 29, true, 2⟩), (1, ⟨[.int .i64 x, .int .i64 y], 29, true, 2⟩), (2, ⟨[.int .i64 qx, .int .i64 qy], 29, true, 2⟩), (3, ⟨[.int .i64 s], 3, true, 1⟩)]) (post0 := [(0, ⟨(h.flatMap ptc), 29, true, 2⟩), (1, ⟨[.int .i64 x, .int .i64 y], 29, true, 2⟩), (2, ⟨[.int .i64 qx, .int .i64 qy], 29, true, 2⟩), (3, ⟨[.int .i64 s], 3, true, 1⟩)]) (pre := [(0, ⟨(h.flatMap ptc), 29, true, 2⟩), (1, ⟨[.int .i64 x, .int .i64 y], 29, true, 2⟩), (2, ⟨[.int .i64 qx, .int .i64 qy], 29, true, 2⟩), (3, ⟨[.int .i64 s], 3, true, 1⟩)]) (post := [(0, ⟨(h.flatMap ptc), 29, true, 2⟩), (1, ⟨[.int .i64 x, .int .i64 y], 29, true, 2⟩), (2, ⟨[.int .i64 qx, .int .i64 qy], 29, true, 2⟩), (3, ⟨[.int .i64 s], 3, true, 1⟩)]) (v0 := .int .i64 (Sp.ixF (Sp.sdf (x, y) (qx, qy) s) h 0)) (v := .int .i64 (Sp.ixF (Sp.sdf (x, y) (qx, qy) s) h 0)) [0, 1, 2, 3] (by kernel_rfl) (by kernel_rfl) (by kernel_rfl) (by kernel_rfl) (ixs_ok h x y qx qy s hn hz hfh bx by1 bqx bqy hs) (.cons (.slice _ _ _ _ _ (by decide)) (.cons (.funcL (.flats (by kernel_rfl)) (.cons (.ptr _ _ (by decide)) (.cons (.ptr _ _ (by decide)) (.cons (.ptr _ _ (by decide)) .nil)))) .nil)) ⟨rfl, ⟨rfl, rfl, rfl, (.flats (flats_pair _))⟩, rfl, ⟨rfl, rfl, rfl, (.flats (by kernel_rfl))⟩, rfl, ⟨rfl, rfl, rfl, (.flats (by kernel_rfl))⟩, rfl, ⟨rfl, rfl, rfl, (.flats (by kernel_rfl))⟩, trivial⟩ (by kernel_rfl) (by kernel_rfl) (by kernel_rfl) ⟨rfl, ⟨rfl, rfl, rfl, (.flats (flats_pair _))⟩, rfl, ⟨rfl, rfl, rfl, (.flats (by kernel_rfl))⟩, rfl, ⟨rfl, rfl, rfl, (.flats (by kernel_rfl))⟩, rfl, ⟨rfl, rfl, rfl, (.flats (by kernel_rfl))⟩, trivial⟩ (.flatB (by kernel_rfl))) <|
    .p (does_b (h.any (Sp.sdf (x, y) (qx, qy) s)) (Sp.ixF_any _ _)) <| .a 1 4 <| .nil _ _) ?_
  refine aw_rt ?_
  exact en_ret [.bool (h.any (Sp.sdf (x, y) (qx, qy) s))] (by kernel_rfl)

theorem mfd_ok (ps : List (Int × Int)) (x y : Int) (hn : 1 ≤ ps.length) (hz : ps.length ≤ 8796093021952) (hfh : Sp.Few 1048576 ps) (bx : -1048576 ≤ x ∧ x ≤ 1048576) (by1 : -1048576 ≤ y ∧ y ≤ 1048576) :
    AC Try.prog 46 2 ([.slice (some ⟨0, 0, none⟩) ps.length 0, .func (.func 47) #[] #[.pointer (some ⟨1, 0, none⟩)]]) [(0, ⟨(ps.flatMap ptc), 29, true, 2⟩), (1, ⟨[.int .i64 x, .int .i64 y], 29, true, 2⟩)] (.agg #[.int .i64 ((Sp.mnD (x, y) ps (ps.length - 1)).1), .int .i64 ((Sp.mnD (x, y) ps (ps.length - 1)).2)]) [(0, ⟨(ps.flatMap ptc), 29, true, 2⟩), (1, ⟨[.int .i64 x, .int .i64 y], 29, true, 2⟩)] := by
  refine ac_in Try.func46 (fun w0 W pin => ?_)
  refine aw_p 3 (
    .a 1 2 <| .nil _ _) ?_
  refine aw_sq 6 7 ?_
  refine aw_p 13 (
    .a 2 3 <| .p (does_b false ((show (decide (((ps.length : Nat) : Int) < 1)) = false from decide_eq_false (by omega)))) <| .nil _ _) ?_
  refine aw_fl 27 ?_
  refine aw_sk ?_
  refine then_normal ?_
  refine aw_p 15 (
    .a 1 3 <| .p (does_indexSlice (t := 24) (x := .tmp 11) (y := .const (.int .i64 0)) (k := 0) (off := 0) (n := ps.length) (c := 0) (z := 2) (kd := .i64) (j := 0) (by kernel_rfl) (by kernel_rfl) (by kernel_rfl) (by kernel_rfl) (by kernel_rfl) (by omega) (by omega)) <|
    .p (does_load (t := 29) (x := .tmp 12) (k := 0) (off := 0) (b := ⟨(ps.flatMap ptc), 29, true, 2⟩) (v := .agg #[.int .i64 ((ps.getD 0 (0, 0)).1), .int .i64 ((ps.getD 0 (0, 0)).2)]) (by kernel_rfl) (by kernel_rfl) (by kernel_rfl) (ldV_pair (j := 0) (by kernel_rfl) (by kernel_rfl) (by omega) (by omega))) <|
    .a 2 3 <| .nil _ _) ?_
  refine aw_sq 30 31 ?_
  refine aw_p 61 (
    .a 1 4 <| .nil _ _) ?_
  refine aw_bl 0 123 ?_
  refine aw_lp 247 ?_
  refine al_w [(0, .slice (some ⟨0, 0, none⟩) ps.length 0), (1, .func (.func 47) #[] #[.pointer (some ⟨1, 0, none⟩)]), (4, .pointer (some ⟨2, 0, none⟩)), (5, .pointer (some ⟨3, 0, none⟩)), (6, .int .i64 ((0 + 1 : Nat) : Int))] [(0, ⟨(ps.flatMap ptc), 29, true, 2⟩), (1, ⟨[.int .i64 x, .int .i64 y], 29, true, 2⟩), (2, ⟨[.int .i64 0, .int .i64 0], 29, true, 2⟩), (3, ⟨[.int .i64 ((ps.getD 0 (0, 0)).1), .int .i64 ((ps.getD 0 (0, 0)).2)], 29, true, 2⟩)] ?_ (hc := (by simp [closedB, valsB, valB, List.all_eq_true, List.mem_flatMap, List.mem_range, List.mem_map, i64v, ptc, flat1]; try (intros; simp [valsB, valB, flat1]); try decide))
  refine al_ind (fun i : Nat × Int × Int => (fun (i : Nat) (a : Int) (b : Int) => mkSt 2 [(0, .slice (some ⟨0, 0, none⟩) ps.length 0), (1, .func (.func 47) #[] #[.pointer (some ⟨1, 0, none⟩)]), (4, .pointer (some ⟨2, 0, none⟩)), (5, .pointer (some ⟨3, 0, none⟩)), (6, .int .i64 ((i + 1 : Nat) : Int))] [(0, ⟨(ps.flatMap ptc), 29, true, 2⟩), (1, ⟨[.int .i64 x, .int .i64 y], 29, true, 2⟩), (2, ⟨[.int .i64 0, .int .i64 0], 29, true, 2⟩), (3, ⟨[.int .i64 a, .int .i64 b], 29, true, 2⟩)]) i.1 i.2.1 i.2.2) (fun i : Nat × Int × Int => (fun (i : Nat) (a : Int) (b : Int) => (i + 1 ≤ ps.length) ∧ ((a, b) = Sp.mnD (x, y) ps i) ∧ ((-1048576 ≤ a ∧ a ≤ 1048576) ∧ (-1048576 ≤ b ∧ b ≤ 1048576))) i.1 i.2.1 i.2.2) (fun i : Nat × Int × Int => (fun (i : Nat) (a : Int) (b : Int) => ps.length - i) i.1 i.2.1 i.2.2) (fun i hi1 ih1 => ?_) (0, ((ps.getD 0 (0, 0)).1), ((ps.getD 0 (0, 0)).2)) (show (0 + 1 ≤ ps.length) ∧ ((((ps.getD 0 (0, 0)).1), ((ps.getD 0 (0, 0)).2)) = Sp.mnD (x, y) ps 0) ∧ ((-1048576 ≤ ((ps.getD 0 (0, 0)).1) ∧ ((ps.getD 0 (0, 0)).1) ≤ 1048576) ∧ (-1048576 ≤ ((ps.getD 0 (0, 0)).2) ∧ ((ps.getD 0 (0, 0)).2) ≤ 1048576)) from ⟨by omega, by rfl, by exact hfh 0⟩)
  obtain ⟨i, a, b⟩ := i
  have hi1' : (i + 1 ≤ ps.length) ∧ ((a, b) = Sp.mnD (x, y) ps i) ∧ ((-1048576 ≤ a ∧ a ≤ 1048576) ∧ (-1048576 ≤ b ∧ b ≤ 1048576)) := hi1
  obtain ⟨hi, ha, ba⟩ := hi1'
  show AL _ _ _ (mkSt 2 [(0, .slice (some ⟨0, 0, none⟩) ps.length 0), (1, .func (.func 47) #[] #[.pointer (some ⟨1, 0, none⟩)]), (4, .pointer (some ⟨2, 0, none⟩)), (5, .pointer (some ⟨3, 0, none⟩)), (6, .int .i64 ((i + 1 : Nat) : Int))] [(0, ⟨(ps.flatMap ptc), 29, true, 2⟩), (1, ⟨[.int .i64 x, .int .i64 y], 29, true, 2⟩), (2, ⟨[.int .i64 0, .int .i64 0], 29, true, 2⟩), (3, ⟨[.int .i64 a, .int .i64 b], 29, true, 2⟩)]) _
  have fi := hfh (i + 1)
  refine al_round ?_
  refine aw_sq 494 495 ?_
  refine aw_p 989 (
    .a 4 4 <| .nil _ _) ?_
  refine aw_cd 1978 1979 (decide (((i + 1 : Nat) : Int) < ((ps.length : Nat) : Int))) (fun h1 => ?_) (fun h1 => ?_)
  · have h1p : ((((i + 1 : Nat) : Int) < ((ps.length : Nat) : Int))) := by first | (simpa using h1) | (have h1q := h1; simp at h1q; omega) | (have h1q := bx1 h1; simp at h1q; omega)
    have hil : i + 1 < ps.length := by omega
    refine aw_sk ?_
    refine then_normal ?_
    refine aw_sq 990 991 ?_
    refine aw_bl 1 1981 ?_
    refine aw_d 3963 (
      .a 3 4 <| .p (does_indexSlice (t := 24) (x := .tmp 21) (y := .tmp 22) (k := 0) (off := 0) (n := ps.length) (c := 0) (z := 2) (kd := .i64) (j := ((i + 1 : Nat) : Int)) (by kernel_rfl) (by kernel_rfl) (by kernel_rfl) (by kernel_rfl) (by kernel_rfl) (by omega) (by omega)) <|
      .p (does_load (t := 29) (x := .tmp 23) (k := 0) (off := (0 + (((i + 1 : Nat) : Int)).toNat * 2)) (b := ⟨(ps.flatMap ptc), 29, true, 2⟩) (v := .agg #[.int .i64 ((ps.getD (i + 1) (0, 0)).1), .int .i64 ((ps.getD (i + 1) (0, 0)).2)]) (by kernel_rfl) (by kernel_rfl) (by kernel_rfl) (ldV_pair (j := (i + 1)) (by kernel_rfl) (by kernel_rfl) (by omega) (by omega))) <|
      .a 1 4 <|
      .p (does_callB (x := .tmp 20) (ars := #[.tmp 24, .tmp 25]) (ats := #[29, 29]) (g := 47) (vs := [.agg #[.int .i64 ((ps.getD (i + 1) (0, 0)).1), .int .i64 ((ps.getD (i + 1) (0, 0)).2)], .agg #[.int .i64 a, .int .i64 b]]) (m := 1) (r := 0) (firsts := #[]) (caps := #[.pointer (some ⟨1, 0, none⟩)]) (args0 := [.agg #[.int .i64 ((ps.getD (i + 1) (0, 0)).1), .int .i64 ((ps.getD (i + 1) (0, 0)).2)], .agg #[.int .i64 a, .int .i64 b], .pointer (some ⟨0, 0, none⟩)]) (pre0 := [(0, ⟨[.int .i64 x, .int .i64 y], 29, true, 2⟩)]) (post0 := [(0, ⟨[.int .i64 x, .int .i64 y], 29, true, 2⟩)]) (pre := [(1, ⟨[.int .i64 x, .int .i64 y], 29, true, 2⟩)]) (post := [(1, ⟨[.int .i64 x, .int .i64 y], 29, true, 2⟩)]) (v0 := .int .i64 (Sp.dot x y ((ps.getD (i + 1) (0, 0)).1) ((ps.getD (i + 1) (0, 0)).2) ((ps.getD (i + 1) (0, 0)).1) ((ps.getD (i + 1) (0, 0)).2) - Sp.dot x y a b a b)) (v := .int .i64 (Sp.dot x y ((ps.getD (i + 1) (0, 0)).1) ((ps.getD (i + 1) (0, 0)).2) ((ps.getD (i + 1) (0, 0)).1) ((ps.getD (i + 1) (0, 0)).2) - Sp.dot x y a b a b)) [1] (by kernel_rfl) (by kernel_rfl) (by kernel_rfl) (by kernel_rfl) (fd_ok ((ps.getD (i + 1) (0, 0)).1) ((ps.getD (i + 1) (0, 0)).2) a b x y fi.1 fi.2 ba.1 ba.2 bx by1) (.cons (.flatB (by kernel_rfl)) (.cons (.flatB (by kernel_rfl)) (.cons (.ptr _ _ (by decide)) .nil))) ⟨rfl, ⟨rfl, rfl, rfl, (.flats (by kernel_rfl))⟩, trivial⟩ (by kernel_rfl) (by kernel_rfl) (by kernel_rfl) ⟨rfl, ⟨rfl, rfl, rfl, (.flats (by kernel_rfl))⟩, trivial⟩ (.flatB (by kernel_rfl))) <|
      .a 1 4 <| .nil _ _) ?_
    refine aw_cd 7926 7927 (decide ((Sp.dot x y ((ps.getD (i + 1) (0, 0)).1) ((ps.getD (i + 1) (0, 0)).2) ((ps.getD (i + 1) (0, 0)).1) ((ps.getD (i + 1) (0, 0)).2) - Sp.dot x y a b a b) < 0)) (fun h2 => ?_) (fun h2 => ?_)
    · have h2p : (((Sp.dot x y ((ps.getD (i + 1) (0, 0)).1) ((ps.getD (i + 1) (0, 0)).2) ((ps.getD (i + 1) (0, 0)).1) ((ps.getD (i + 1) (0, 0)).2) - Sp.dot x y a b a b) < 0)) := by first | (simpa using h2) | (have h2q := h2; simp at h2q; omega) | (have h2q := bx1 h2; simp at h2q; omega)
      refine aw_p1 (
        .a 2 4 <| .p (does_indexSlice (t := 24) (x := .tmp 28) (y := .tmp 29) (k := 0) (off := 0) (n := ps.length) (c := 0) (z := 2) (kd := .i64) (j := ((i + 1 : Nat) : Int)) (by kernel_rfl) (by kernel_rfl) (by kernel_rfl) (by kernel_rfl) (by kernel_rfl) (by omega) (by omega)) <|
        .p (does_load (t := 29) (x := .tmp 30) (k := 0) (off := (0 + (((i + 1 : Nat) : Int)).toNat * 2)) (b := ⟨(ps.flatMap ptc), 29, true, 2⟩) (v := .agg #[.int .i64 ((ps.getD (i + 1) (0, 0)).1), .int .i64 ((ps.getD (i + 1) (0, 0)).2)]) (by kernel_rfl) (by kernel_rfl) (by kernel_rfl) (ldV_pair (j := (i + 1)) (by kernel_rfl) (by kernel_rfl) (by omega) (by omega))) <|
        .a 1 4 <| .nil _ _) ?_
      refine block_normal ?_
      refine then_normal ?_
      refine aw_p1 (
        .a 1 4 <| .p (does_i (((i + 1 : Nat) : Int) + 1) (wrap_i64 (by omega) (by omega)) .i64) <| .a 1 4 <| .nil _ _) ?_
      refine then_normal ?_
      refine al_w [(0, .slice (some ⟨0, 0, none⟩) ps.length 0), (1, .func (.func 47) #[] #[.pointer (some ⟨1, 0, none⟩)]), (4, .pointer (some ⟨2, 0, none⟩)), (5, .pointer (some ⟨3, 0, none⟩)), (6, .int .i64 (((i + 1) + 1 : Nat) : Int))] [(0, ⟨(ps.flatMap ptc), 29, true, 2⟩), (1, ⟨[.int .i64 x, .int .i64 y], 29, true, 2⟩), (2, ⟨[.int .i64 0, .int .i64 0], 29, true, 2⟩), (3, ⟨[.int .i64 ((ps.getD (i + 1) (0, 0)).1), .int .i64 ((ps.getD (i + 1) (0, 0)).2)], 29, true, 2⟩)] ?_ (hc := (by simp [closedB, valsB, valB, List.all_eq_true, List.mem_flatMap, List.mem_range, List.mem_map, i64v, ptc, flat1]; try (intros; simp [valsB, valB, flat1]); try decide))
      exact ih1 ((i + 1), ((ps.getD (i + 1) (0, 0)).1), ((ps.getD (i + 1) (0, 0)).2)) (show ((i + 1) + 1 ≤ ps.length) ∧ ((((ps.getD (i + 1) (0, 0)).1), ((ps.getD (i + 1) (0, 0)).2)) = Sp.mnD (x, y) ps (i + 1)) ∧ ((-1048576 ≤ ((ps.getD (i + 1) (0, 0)).1) ∧ ((ps.getD (i + 1) (0, 0)).1) ≤ 1048576) ∧ (-1048576 ≤ ((ps.getD (i + 1) (0, 0)).2) ∧ ((ps.getD (i + 1) (0, 0)).2) ≤ 1048576)) from ⟨by omega, by (first | exact Sp.mnD_y ha (by assumption) | exact Sp.mnD_n ha (by assumption)), by (first | exact ba | exact fi)⟩) (show ps.length - (i + 1) < ps.length - i from by omega)
    · have h2p : ¬ (((Sp.dot x y ((ps.getD (i + 1) (0, 0)).1) ((ps.getD (i + 1) (0, 0)).2) ((ps.getD (i + 1) (0, 0)).1) ((ps.getD (i + 1) (0, 0)).2) - Sp.dot x y a b a b) < 0)) := by first | (simpa using h2) | (have h2q := h2; simp at h2q; omega) | (have h2q := bx2 h2; simp at h2q; omega)
      refine aw_sk ?_
      refine block_normal ?_
      refine then_normal ?_
      refine aw_p1 (
        .a 1 4 <| .p (does_i (((i + 1 : Nat) : Int) + 1) (wrap_i64 (by omega) (by omega)) .i64) <| .a 1 4 <| .nil _ _) ?_
      refine then_normal ?_
      refine al_w [(0, .slice (some ⟨0, 0, none⟩) ps.length 0), (1, .func (.func 47) #[] #[.pointer (some ⟨1, 0, none⟩)]), (4, .pointer (some ⟨2, 0, none⟩)), (5, .pointer (some ⟨3, 0, none⟩)), (6, .int .i64 (((i + 1) + 1 : Nat) : Int))] [(0, ⟨(ps.flatMap ptc), 29, true, 2⟩), (1, ⟨[.int .i64 x, .int .i64 y], 29, true, 2⟩), (2, ⟨[.int .i64 0, .int .i64 0], 29, true, 2⟩), (3, ⟨[.int .i64 a, .int .i64 b], 29, true, 2⟩)] ?_ (hc := (by simp [closedB, valsB, valB, List.all_eq_true, List.mem_flatMap, List.mem_range, List.mem_map, i64v, ptc, flat1]; try (intros; simp [valsB, valB, flat1]); try decide))
      exact ih1 ((i + 1), a, b) (show ((i + 1) + 1 ≤ ps.length) ∧ ((a, b) = Sp.mnD (x, y) ps (i + 1)) ∧ ((-1048576 ≤ a ∧ a ≤ 1048576) ∧ (-1048576 ≤ b ∧ b ≤ 1048576)) from ⟨by omega, by (first | exact Sp.mnD_y ha (by assumption) | exact Sp.mnD_n ha (by assumption)), by (first | exact ba | exact fi)⟩) (show ps.length - (i + 1) < ps.length - i from by omega)
  · have h1p : ¬ ((((i + 1 : Nat) : Int) < ((ps.length : Nat) : Int))) := by first | (simpa using h1) | (have h1q := h1; simp at h1q; omega) | (have h1q := bx2 h1; simp at h1q; omega)
    have hge : i = ps.length - 1 := by omega
    refine aw_ex 0 ?_
    refine then_exit ?_
    refine then_exit ?_
    refine block_exit ?_
    refine then_normal ?_
    refine aw_p 63 (
      .a 2 4 <| .nil _ _) ?_
    refine aw_rt ?_
    exact en_ret [.agg #[.int .i64 a, .int .i64 b]] (show (.agg #[.int .i64 a, .int .i64 b] : Value) = (.agg #[.int .i64 ((Sp.mnD (x, y) ps (ps.length - 1)).1), .int .i64 ((Sp.mnD (x, y) ps (ps.length - 1)).2)]) from (congrArg (fun z : List Value => Value.agg z.toArray) (lcons (congrArg (Value.int .i64) (show a = ((Sp.mnD (x, y) ps (ps.length - 1)).1) from by (first | exact (by rw [← hge, ← ha]) | exact (congrArg (·.1) (by rw [← hge]; exact ha)) | exact (congrArg (·.2) (by rw [← hge]; exact ha))))) (lcons (congrArg (Value.int .i64) (show b = ((Sp.mnD (x, y) ps (ps.length - 1)).2) from by (first | exact (by rw [← hge, ← ha]) | exact (congrArg (·.1) (by rw [← hge]; exact ha)) | exact (congrArg (·.2) (by rw [← hge]; exact ha))))) rfl))))


end Go.Proofs.Ytadifmimefmcnaa.Am
