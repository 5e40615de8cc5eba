/-
  The walks of what is in a list, and of equal lists.
-/
import Derived.Test.YtadifmimefmcnaaProg
import Derived.Test.YtadifmimefmcnaaAm16
import Derived.Test.YtadifmimefmcnaaTe2
namespace Go.Proofs.Ytadifmimefmcnaa.Am
open Go Go.Proofs
set_option maxRecDepth 100000
set_option maxHeartbeats 4000000
set_option linter.unusedVariables false
set_option linter.unusedSimpArgs false

theorem clo_ok (ps : List (Int × Int)) (hn : 1 ≤ ps.length) (hz : ps.length ≤ 4096) (x y : Int) (hm : (ps.any (Sp.eqTo (x, y))) = true) :
    AC Try.prog 20 2 ([.agg #[.int .i64 x, .int .i64 y], .pointer (some ⟨0, 0, none⟩)]) [(0, ⟨[.slice (some ⟨1, 0, none⟩) ps.length 0], 24, true, 1⟩), (1, ⟨(ps.flatMap ptc), 29, true, 2⟩)] (.bool false) [(0, ⟨[.slice (some ⟨1, 0, none⟩) ps.length 0], 24, true, 1⟩), (1, ⟨(ps.flatMap ptc), 29, true, 2⟩)] := by
  refine ac_in Try.func20 (fun w0 W pin => ?_)
  refine aw_p 3 (
    .a 2 2 <| .nil _ _) ?_
  refine aw_p 7 (
    .a 2 3 <|
    .p (does_callB (x := .func 21) (ars := #[.tmp 4, .tmp 5]) (ats := #[24, 29]) (g := 21) (vs := [.slice (some ⟨1, 0, none⟩) ps.length 0, .agg #[.int .i64 x, .int .i64 y]]) (m := 1) (r := 0) (firsts := #[]) (caps := #[]) (args0 := [.slice (some ⟨0, 0, none⟩) ps.length 0, .agg #[.int .i64 x, .int .i64 y]]) (pre0 := [(0, ⟨(ps.flatMap ptc), 29, true, 2⟩)]) (post0 := [(0, ⟨(ps.flatMap ptc), 29, true, 2⟩)]) (pre := [(1, ⟨(ps.flatMap ptc), 29, true, 2⟩)]) (post := [(1, ⟨(ps.flatMap ptc), 29, true, 2⟩)]) (v0 := .bool (ps.any (Sp.eqTo (x, y)))) (v := .bool (ps.any (Sp.eqTo (x, y)))) [1] (by kernel_rfl) (by kernel_rfl) (by kernel_rfl) (by kernel_rfl) (contains_ok ps (by omega) (by omega) x y) (.cons (.slice _ _ _ _ _ (by decide)) (.cons (.flatB (by kernel_rfl)) .nil)) ⟨rfl, ⟨rfl, rfl, rfl, (.flats (flats_pair _))⟩, trivial⟩ (by kernel_rfl) (by kernel_rfl) (by kernel_rfl) ⟨rfl, ⟨rfl, rfl, rfl, (.flats (flats_pair _))⟩, trivial⟩ (.flatB (by kernel_rfl))) <|
    .p (does_b false ((show (!(ps.any (Sp.eqTo (x, y)))) = false from (by rw [hm]; rfl)))) <| .a 1 3 <| .nil _ _) ?_
  refine aw_rt ?_
  exact en_ret [.bool false] (by kernel_rfl)

theorem ixc_ok (ps ys : List (Int × Int)) (hn : 1 ≤ ps.length) (hz : ps.length ≤ 4096) (hy : ys.length ≤ 4096) (hm : ∀ i, i < ys.length → (ps.any (Sp.eqTo ((ys.getD i (0, 0)).1, (ys.getD i (0, 0)).2))) = true) :
    AC Try.prog 58 3 ([.slice (some ⟨0, 0, none⟩) ys.length 0, .func (.func 20) #[] #[.pointer (some ⟨1, 0, none⟩)]]) [(0, ⟨(ys.flatMap ptc), 29, true, 2⟩), (1, ⟨[.slice (some ⟨2, 0, none⟩) ps.length 0], 24, true, 1⟩), (2, ⟨(ps.flatMap ptc), 29, true, 2⟩)] (.int .i64 (-1)) [(0, ⟨(ys.flatMap ptc), 29, true, 2⟩), (1, ⟨[.slice (some ⟨2, 0, none⟩) ps.length 0], 24, true, 1⟩), (2, ⟨(ps.flatMap ptc), 29, true, 2⟩)] := by
  refine ac_in Try.func58 (fun w0 W pin => ?_)
  refine aw_p 3 (
    .a 1 3 <| .nil _ _) ?_
  refine aw_sq 6 7 ?_
  refine aw_p 13 (
    .a 3 3 <| .nil _ _) ?_
  refine aw_bl 0 27 ?_
  refine aw_lp 55 ?_
  refine al_w [(0, .slice (some ⟨0, 0, none⟩) ys.length 0), (1, .func (.func 20) #[] #[.pointer (some ⟨1, 0, none⟩)]), (7, .int .i64 ((ys.length : Nat) : Int)), (8, .int .i64 ((0 : Nat) : Int))] [(0, ⟨(ys.flatMap ptc), 29, true, 2⟩), (1, ⟨[.slice (some ⟨2, 0, none⟩) ps.length 0], 24, true, 1⟩), (2, ⟨(ps.flatMap ptc), 29, true, 2⟩)] ?_ (hc := (by simp [closedB, valsB, valB, List.all_eq_true, List.mem_flatMap, List.mem_range, List.mem_map, i64v, ptc, flat1]; try (intros; simp [valsB, valB, flat1]); try decide))
  refine al_ind (fun i : Nat => (fun (i : Nat) => mkSt 3 [(0, .slice (some ⟨0, 0, none⟩) ys.length 0), (1, .func (.func 20) #[] #[.pointer (some ⟨1, 0, none⟩)]), (7, .int .i64 ((ys.length : Nat) : Int)), (8, .int .i64 ((i : Nat) : Int))] [(0, ⟨(ys.flatMap ptc), 29, true, 2⟩), (1, ⟨[.slice (some ⟨2, 0, none⟩) ps.length 0], 24, true, 1⟩), (2, ⟨(ps.flatMap ptc), 29, true, 2⟩)]) i) (fun i : Nat => (fun (i : Nat) => (i ≤ ys.length)) i) (fun i : Nat => (fun (i : Nat) => ys.length - i) i) (fun i hi1 ih1 => ?_) 0 (show (0 ≤ ys.length) from by omega)
  obtain ⟨i, hv1⟩ : ∃ z, z = i := ⟨i, rfl⟩; subst hv1
  have hi1' : (i ≤ ys.length) := hi1
  have hi : i ≤ ys.length := hi1'
  show AL _ _ _ (mkSt 3 [(0, .slice (some ⟨0, 0, none⟩) ys.length 0), (1, .func (.func 20) #[] #[.pointer (some ⟨1, 0, none⟩)]), (7, .int .i64 ((ys.length : Nat) : Int)), (8, .int .i64 ((i : Nat) : Int))] [(0, ⟨(ys.flatMap ptc), 29, true, 2⟩), (1, ⟨[.slice (some ⟨2, 0, none⟩) ps.length 0], 24, true, 1⟩), (2, ⟨(ps.flatMap ptc), 29, true, 2⟩)]) _
  refine al_round ?_
  refine aw_p 111 (
    .a 1 3 <| .nil _ _) ?_
  refine aw_sq 222 223 ?_
  refine aw_cd 444 445 (decide (((i : Nat) : Int) < ((ys.length : Nat) : Int))) (fun h1 => ?_) (fun h1 => ?_)
  · have h1p : ((((i : Nat) : Int) < ((ys.length : Nat) : Int))) := by first | (simpa using h1) | (have h1q := h1; simp at h1q; omega) | (have h1q := bx1 h1; simp at h1q; omega)
    have hil : i < ys.length := by omega
    refine aw_sk ?_
    refine then_normal ?_
    refine aw_sq 446 447 ?_
    refine aw_bl 1 893 ?_
    refine aw_p 1787 (
      .a 2 3 <| .nil _ _) ?_
    refine aw_p 3575 (
      .a 3 3 <| .p (does_indexSlice (t := 24) (x := .tmp 12) (y := .tmp 13) (k := 0) (off := 0) (n := ys.length) (c := 0) (z := 2) (kd := .i64) (j := ((i : Nat) : Int)) (by kernel_rfl) (by kernel_rfl) (by kernel_rfl) (by kernel_rfl) (by kernel_rfl) (by omega) (by omega)) <|
      .p (does_load (t := 29) (x := .tmp 14) (k := 0) (off := (0 + (((i : Nat) : Int)).toNat * 2)) (b := ⟨(ys.flatMap ptc), 29, true, 2⟩) (v := .agg #[.int .i64 ((ys.getD i (0, 0)).1), .int .i64 ((ys.getD i (0, 0)).2)]) (by kernel_rfl) (by kernel_rfl) (by kernel_rfl) (ldV_pair (j := i) (by kernel_rfl) (by kernel_rfl) (by omega) (by omega))) <|
      .p (does_callB (x := .tmp 11) (ars := #[.tmp 15]) (ats := #[29]) (g := 20) (vs := [.agg #[.int .i64 ((ys.getD i (0, 0)).1), .int .i64 ((ys.getD i (0, 0)).2)]]) (m := 2) (r := 0) (firsts := #[]) (caps := #[.pointer (some ⟨1, 0, none⟩)]) (args0 := [.agg #[.int .i64 ((ys.getD i (0, 0)).1), .int .i64 ((ys.getD i (0, 0)).2)], .pointer (some ⟨0, 0, none⟩)]) (pre0 := [(0, ⟨[.slice (some ⟨1, 0, none⟩) ps.length 0], 24, true, 1⟩), (1, ⟨(ps.flatMap ptc), 29, true, 2⟩)]) (post0 := [(0, ⟨[.slice (some ⟨1, 0, none⟩) ps.length 0], 24, true, 1⟩), (1, ⟨(ps.flatMap ptc), 29, true, 2⟩)]) (pre := [(1, ⟨[.slice (some ⟨2, 0, none⟩) ps.length 0], 24, true, 1⟩), (2, ⟨(ps.flatMap ptc), 29, true, 2⟩)]) (post := [(1, ⟨[.slice (some ⟨2, 0, none⟩) ps.length 0], 24, true, 1⟩), (2, ⟨(ps.flatMap ptc), 29, true, 2⟩)]) (v0 := .bool false) (v := .bool false) [1, 2] (by kernel_rfl) (by kernel_rfl) (by kernel_rfl) (by kernel_rfl) (clo_ok ps hn hz _ _ (hm i hil)) (.cons (.flatB (by kernel_rfl)) (.cons (.ptr _ _ (by decide)) .nil)) ⟨rfl, ⟨rfl, rfl, rfl, (.cons (.slice _ _ _ _ _ (by decide)) .nil)⟩, rfl, ⟨rfl, rfl, rfl, (.flats (flats_pair _))⟩, trivial⟩ (by kernel_rfl) (by kernel_rfl) (by kernel_rfl) ⟨rfl, ⟨rfl, rfl, rfl, (.cons (.slice _ _ _ _ _ (by decide)) .nil)⟩, rfl, ⟨rfl, rfl, rfl, (.flats (flats_pair _))⟩, trivial⟩ (.flatB (by kernel_rfl))) <| .nil _ _) ?_
    refine aw_fl 7151 ?_
    refine aw_sk ?_
    refine block_normal ?_
    refine then_normal ?_
    refine aw_p1 (
      .p (does_i (((i : Nat) : Int) + 1) (wrap_i64 (by omega) (by omega)) .i64) <| .a 1 3 <| .nil _ _) ?_
    refine then_normal ?_
    refine al_w [(0, .slice (some ⟨0, 0, none⟩) ys.length 0), (1, .func (.func 20) #[] #[.pointer (some ⟨1, 0, none⟩)]), (7, .int .i64 ((ys.length : Nat) : Int)), (8, .int .i64 (((i + 1) : Nat) : Int))] [(0, ⟨(ys.flatMap ptc), 29, true, 2⟩), (1, ⟨[.slice (some ⟨2, 0, none⟩) ps.length 0], 24, true, 1⟩), (2, ⟨(ps.flatMap ptc), 29, true, 2⟩)] ?_ (hc := (by simp [closedB, valsB, valB, List.all_eq_true, List.mem_flatMap, List.mem_range, List.mem_map, i64v, ptc, flat1]; try (intros; simp [valsB, valB, flat1]); try decide))
    exact ih1 (i + 1) (show ((i + 1) ≤ ys.length) from by omega) (show ys.length - (i + 1) < ys.length - i from by omega)
  · have h1p : ¬ ((((i : Nat) : Int) < ((ys.length : Nat) : Int))) := by first | (simpa using h1) | (have h1q := h1; simp at h1q; omega) | (have h1q := bx2 h1; simp at h1q; omega)
    refine aw_ex 0 ?_
    refine then_exit ?_
    refine then_exit ?_
    refine block_exit ?_
    refine then_normal ?_
    refine aw_p 15 (
      .a 1 3 <| .nil _ _) ?_
    refine aw_rt ?_
    exact en_ret [.int .i64 (-1)] (by kernel_rfl)

theorem ctc_ok (ps ys : List (Int × Int)) (hn : 1 ≤ ps.length) (hz : ps.length ≤ 4096) (hy : ys.length ≤ 4096) (hm : ∀ i, i < ys.length → (ps.any (Sp.eqTo ((ys.getD i (0, 0)).1, (ys.getD i (0, 0)).2))) = true) :
    AC Try.prog 19 3 ([.slice (some ⟨0, 0, none⟩) ys.length 0, .func (.func 20) #[] #[.pointer (some ⟨1, 0, none⟩)]]) [(0, ⟨(ys.flatMap ptc), 29, true, 2⟩), (1, ⟨[.slice (some ⟨2, 0, none⟩) ps.length 0], 24, true, 1⟩), (2, ⟨(ps.flatMap ptc), 29, true, 2⟩)] (.bool false) [(0, ⟨(ys.flatMap ptc), 29, true, 2⟩), (1, ⟨[.slice (some ⟨2, 0, none⟩) ps.length 0], 24, true, 1⟩), (2, ⟨(ps.flatMap ptc), 29, true, 2⟩)] := by
  refine ac_in Try.func19 (fun w0 W pin => ?_)
  refine aw_p 3 (
    .a 1 3 <| .nil _ _) ?_
  refine aw_p 7 (
    .a 2 3 <|
    .p (does_callB (x := .func 58) (ars := #[.tmp 5, .tmp 6]) (ats := #[24, 34]) (g := 58) (vs := [.slice (some ⟨0, 0, none⟩) ys.length 0, .func (.func 20) #[] #[.pointer (some ⟨1, 0, none⟩)]]) (m := 3) (r := 0) (firsts := #[]) (caps := #[]) (args0 := [.slice (some ⟨0, 0, none⟩) ys.length 0, .func (.func 20) #[] #[.pointer (some ⟨1, 0, none⟩)]]) (pre0 := [(0, ⟨(ys.flatMap ptc), 29, true, 2⟩), (1, ⟨[.slice (some ⟨2, 0, none⟩) ps.length 0], 24, true, 1⟩), (2, ⟨(ps.flatMap ptc), 29, true, 2⟩)]) (post0 := [(0, ⟨(ys.flatMap ptc), 29, true, 2⟩), (1, ⟨[.slice (some ⟨2, 0, none⟩) ps.length 0], 24, true, 1⟩), (2, ⟨(ps.flatMap ptc), 29, true, 2⟩)]) (pre := [(0, ⟨(ys.flatMap ptc), 29, true, 2⟩), (1, ⟨[.slice (some ⟨2, 0, none⟩) ps.length 0], 24, true, 1⟩), (2, ⟨(ps.flatMap ptc), 29, true, 2⟩)]) (post := [(0, ⟨(ys.flatMap ptc), 29, true, 2⟩), (1, ⟨[.slice (some ⟨2, 0, none⟩) ps.length 0], 24, true, 1⟩), (2, ⟨(ps.flatMap ptc), 29, true, 2⟩)]) (v0 := .int .i64 (-1)) (v := .int .i64 (-1)) [0, 1, 2] (by kernel_rfl) (by kernel_rfl) (by kernel_rfl) (by kernel_rfl) (ixc_ok ps ys hn hz hy hm) (.cons (.slice _ _ _ _ _ (by decide)) (.cons (.funcL (.flats (by kernel_rfl)) (.cons (.ptr _ _ (by decide)) .nil)) .nil)) ⟨rfl, ⟨rfl, rfl, rfl, (.flats (flats_pair _))⟩, rfl, ⟨rfl, rfl, rfl, (.cons (.slice _ _ _ _ _ (by decide)) .nil)⟩, rfl, ⟨rfl, rfl, rfl, (.flats (flats_pair _))⟩, trivial⟩ (by kernel_rfl) (by kernel_rfl) (by kernel_rfl) ⟨rfl, ⟨rfl, rfl, rfl, (.flats (flats_pair _))⟩, rfl, ⟨rfl, rfl, rfl, (.cons (.slice _ _ _ _ _ (by decide)) .nil)⟩, rfl, ⟨rfl, rfl, rfl, (.flats (flats_pair _))⟩, trivial⟩ (.flatB (by kernel_rfl))) <|
    .a 2 3 <| .nil _ _) ?_
  refine aw_rt ?_
  exact en_ret [.bool false] (by kernel_rfl)

theorem equal_ok (ps : List (Int × Int)) (hz : ps.length ≤ 4096) :
    AC Try.prog 17 2 ([.slice (some ⟨0, 0, none⟩) ps.length 0, .slice (some ⟨1, 0, none⟩) ps.length 0]) [(0, ⟨(ps.flatMap ptc), 29, true, 2⟩), (1, ⟨(ps.flatMap ptc), 29, true, 2⟩)] (.bool true) [(0, ⟨(ps.flatMap ptc), 29, true, 2⟩), (1, ⟨(ps.flatMap ptc), 29, true, 2⟩)] := by
  refine ac_in Try.func17 (fun w0 W pin => ?_)
  refine aw_p 3 (
    .a 1 2 <| .nil _ _) ?_
  refine aw_sq 6 7 ?_
  refine aw_p 13 (
    .a 4 2 <| .p (does_b false ((show (((ps.length : Nat) : Int) != ((ps.length : Nat) : Int)) = false from by simp))) <| .nil _ _) ?_
  refine aw_fl 27 ?_
  refine aw_sk ?_
  refine then_normal ?_
  refine aw_sq 14 15 ?_
  refine aw_p 29 (
    .a 3 2 <| .nil _ _) ?_
  refine aw_bl 0 59 ?_
  refine aw_lp 119 ?_
  refine al_w [(0, .slice (some ⟨0, 0, none⟩) ps.length 0), (1, .slice (some ⟨1, 0, none⟩) ps.length 0), (12, .int .i64 ((ps.length : Nat) : Int)), (13, .int .i64 ((0 : Nat) : Int))] [(0, ⟨(ps.flatMap ptc), 29, true, 2⟩), (1, ⟨(ps.flatMap ptc), 29, true, 2⟩)] ?_ (hc := (by simp [closedB, valsB, valB, List.all_eq_true, List.mem_flatMap, List.mem_range, List.mem_map, i64v, ptc, flat1]; try (intros; simp [valsB, valB, flat1]); try decide))
  refine al_ind (fun i : Nat => (fun (i : Nat) => mkSt 2 [(0, .slice (some ⟨0, 0, none⟩) ps.length 0), (1, .slice (some ⟨1, 0, none⟩) ps.length 0), (12, .int .i64 ((ps.length : Nat) : Int)), (13, .int .i64 ((i : Nat) : Int))] [(0, ⟨(ps.flatMap ptc), 29, true, 2⟩), (1, ⟨(ps.flatMap ptc), 29, true, 2⟩)]) i) (fun i : Nat => (fun (i : Nat) => (i ≤ ps.length)) i) (fun i : Nat => (fun (i : Nat) => ps.length - i) i) (fun i hi1 ih1 => ?_) 0 (show (0 ≤ ps.length) from by omega)
  obtain ⟨i, hv1⟩ : ∃ z, z = i := ⟨i, rfl⟩; subst hv1
  have hi1' : (i ≤ ps.length) := hi1
  have hi : i ≤ ps.length := hi1'
  show AL _ _ _ (mkSt 2 [(0, .slice (some ⟨0, 0, none⟩) ps.length 0), (1, .slice (some ⟨1, 0, none⟩) ps.length 0), (12, .int .i64 ((ps.length : Nat) : Int)), (13, .int .i64 ((i : Nat) : Int))] [(0, ⟨(ps.flatMap ptc), 29, true, 2⟩), (1, ⟨(ps.flatMap ptc), 29, true, 2⟩)]) _
  refine al_round ?_
  refine aw_p 239 (
    .a 1 2 <| .nil _ _) ?_
  refine aw_sq 478 479 ?_
  refine aw_cd 956 957 (decide (((i : Nat) : Int) < ((ps.length : Nat) : Int))) (fun h1 => ?_) (fun h1 => ?_)
  · have h1p : ((((i : Nat) : Int) < ((ps.length : Nat) : Int))) := by first | (simpa using h1) | (have h1q := h1; simp at h1q; omega) | (have h1q := bx1 h1; simp at h1q; omega)
    refine aw_sk ?_
    refine then_normal ?_
    refine aw_sq 958 959 ?_
    refine aw_bl 1 1917 ?_
    refine aw_p 3835 (
      .a 2 2 <| .nil _ _) ?_
    refine aw_d 7671 (
      .a 2 2 <| .p (does_indexSlice (t := 24) (x := .tmp 16) (y := .tmp 17) (k := 0) (off := 0) (n := ps.length) (c := 0) (z := 2) (kd := .i64) (j := ((i : Nat) : Int)) (by kernel_rfl) (by kernel_rfl) (by kernel_rfl) (by kernel_rfl) (by kernel_rfl) (by omega) (by omega)) <|
      .p (does_load (t := 29) (x := .tmp 18) (k := 0) (off := (0 + (((i : Nat) : Int)).toNat * 2)) (b := ⟨(ps.flatMap ptc), 29, true, 2⟩) (v := .agg #[.int .i64 ((ps.getD i (0, 0)).1), .int .i64 ((ps.getD i (0, 0)).2)]) (by kernel_rfl) (by kernel_rfl) (by kernel_rfl) (ldV_pair (j := i) (by kernel_rfl) (by kernel_rfl) (by omega) (by omega))) <|
      .a 2 2 <| .p (does_indexSlice (t := 24) (x := .tmp 20) (y := .tmp 21) (k := 1) (off := 0) (n := ps.length) (c := 0) (z := 2) (kd := .i64) (j := ((i : Nat) : Int)) (by kernel_rfl) (by kernel_rfl) (by kernel_rfl) (by kernel_rfl) (by kernel_rfl) (by omega) (by omega)) <|
      .p (does_load (t := 29) (x := .tmp 22) (k := 1) (off := (0 + (((i : Nat) : Int)).toNat * 2)) (b := ⟨(ps.flatMap ptc), 29, true, 2⟩) (v := .agg #[.int .i64 ((ps.getD i (0, 0)).1), .int .i64 ((ps.getD i (0, 0)).2)]) (by kernel_rfl) (by kernel_rfl) (by kernel_rfl) (ldV_pair (j := i) (by kernel_rfl) (by kernel_rfl) (by omega) (by omega))) <|
      .p (does_e false ((show (!((((ps.getD i (0, 0)).1) == ((ps.getD i (0, 0)).1)) && ((((ps.getD i (0, 0)).2) == ((ps.getD i (0, 0)).2)) && true))) = false from by simp))) <| .nil _ _) ?_
    refine aw_fl 15343 ?_
    refine aw_sk ?_
    refine block_normal ?_
    refine then_normal ?_
    refine aw_p1 (
      .p (does_i (((i : Nat) : Int) + 1) (wrap_i64 (by omega) (by omega)) .i64) <| .a 1 2 <| .nil _ _) ?_
    refine then_normal ?_
    refine al_w [(0, .slice (some ⟨0, 0, none⟩) ps.length 0), (1, .slice (some ⟨1, 0, none⟩) ps.length 0), (12, .int .i64 ((ps.length : Nat) : Int)), (13, .int .i64 (((i + 1) : Nat) : Int))] [(0, ⟨(ps.flatMap ptc), 29, true, 2⟩), (1, ⟨(ps.flatMap ptc), 29, true, 2⟩)] ?_ (hc := (by simp [closedB, valsB, valB, List.all_eq_true, List.mem_flatMap, List.mem_range, List.mem_map, i64v, ptc, flat1]; try (intros; simp [valsB, valB, flat1]); try decide))
    exact ih1 (i + 1) (show ((i + 1) ≤ ps.length) from by omega) (show ps.length - (i + 1) < ps.length - i from by omega)
  · have h1p : ¬ ((((i : Nat) : Int) < ((ps.length : Nat) : Int))) := by first | (simpa using h1) | (have h1q := h1; simp at h1q; omega) | (have h1q := bx2 h1; simp at h1q; omega)
    refine aw_ex 0 ?_
    refine then_exit ?_
    refine then_exit ?_
    refine block_exit ?_
    refine then_normal ?_
    refine aw_p 31 (
      .a 1 2 <| .nil _ _) ?_
    refine aw_rt ?_
    exact en_ret [.bool true] (by kernel_rfl)

theorem equal_n (ps qs : List (Int × Int)) (N : Nat) (h : ps = qs) (hN : ps.length = N) (hz : N ≤ 4096) : AC Try.prog 17 2 [.slice (some ⟨0, 0, none⟩) N 0, .slice (some ⟨1, 0, none⟩) N 0] [(0, ⟨(ps.flatMap ptc), 29, true, 2⟩), (1, ⟨(qs.flatMap ptc), 29, true, 2⟩)] (.bool true) [(0, ⟨(ps.flatMap ptc), 29, true, 2⟩), (1, ⟨(qs.flatMap ptc), 29, true, 2⟩)] := by
  subst h
  subst hN
  exact equal_ok ps hz

end Go.Proofs.Ytadifmimefmcnaa.Am
