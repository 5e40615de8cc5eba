/-
  The walk of the law ThinNear.
-/
import Derived.Test.YtadifmimefmcnaaProg
import Derived.Test.YtadifmimefmcnaaAm16
import Derived.Test.YtadifmimefmcnaaTl2
import Derived.Test.YtadifmimefmcnaaTt
import Derived.Test.YtadifmimefmcnaaTe3
import Derived.Test.YtadifmimefmcnaaTb
namespace Go.Proofs.Ytadifmimefmcnaa.Am
open Go Go.Proofs
set_option maxRecDepth 100000
set_option maxHeartbeats 4000000
set_option linter.unusedVariables false
set_option linter.unusedSimpArgs false

theorem thinNear_walk (xs : List Int) (ps ys : List (Int × Int)) (hl : 2 ≤ ps.length ∧ ps.length ≤ 8) (hf : Sp.Few 41 ps) (hm : AC Try.prog 14 1 [.slice (some ⟨0, 0, none⟩) xs.length 0] [(0, ⟨(xs.map i64v), 3, false, 1⟩)] (.slice (some ⟨1, 0, none⟩) ps.length 0) [(1, ⟨(ps.flatMap ptc), 29, true, 2⟩)]) (tol : Int) (hL : Sp.Lined (tol % 20) ps ys) :
    AC Try.prog 3 1 ([.slice (some ⟨0, 0, none⟩) xs.length 0, .int .i64 tol]) [(0, ⟨(xs.map i64v), 3, false, 1⟩)] (.bool true) [] := by
  have t0 := Sp.emod_bd tol (n := 20) (by decide); obtain ⟨⟨y2, yl⟩, f0, f1, f2, f3⟩ := Sp.Lined.facts hL hl.1 t0.1; have hfy : Sp.Few 41 ys := Sp.few_sub (by decide) hf f2; have hfb : Sp.Few 1048576 ys := (fun i => (by have := hfy i; omega))
  refine ac_in Try.func3 (fun w0 W pin => ?_)
  refine aw_p 3 (
    .a 1 1 <| .nil _ _) ?_
  refine aw_sq 6 7 ?_
  refine aw_p 13 (
    .p (does_c (thinBegun_ok)) <| .a 2 1 <| .p (does_c (segBegun_ok)) <| .a 2 1 <| .nil _ _) ?_
  refine aw_fl 27 ?_
  refine aw_sk ?_
  refine then_normal ?_
  refine aw_p 15 (
    .a 1 1 <|
    .p (does_callB (x := .func 14) (ars := #[.tmp 15]) (ats := #[22]) (g := 14) (vs := [.slice (some ⟨0, 0, none⟩) xs.length 0]) (m := 1) (r := 1) (firsts := #[]) (caps := #[]) (args0 := [.slice (some ⟨0, 0, none⟩) xs.length 0]) (pre0 := [(0, ⟨(xs.map i64v), 3, false, 1⟩)]) (post0 := [(1, ⟨(ps.flatMap ptc), 29, true, 2⟩)]) (pre := [(0, ⟨(xs.map i64v), 3, false, 1⟩)]) (post := [(1, ⟨(ps.flatMap ptc), 29, true, 2⟩)]) (v0 := .slice (some ⟨1, 0, none⟩) ps.length 0) (v := .slice (some ⟨1, 0, none⟩) ps.length 0) [0, 1] (by kernel_rfl) (by kernel_rfl) (by kernel_rfl) (by kernel_rfl) (hm) (.cons (.slice _ _ _ _ _ (by decide)) .nil) ⟨rfl, ⟨rfl, rfl, rfl, (.flats (flats_map (fun _ => rfl) _))⟩, trivial⟩ (by kernel_rfl) (by kernel_rfl) (by kernel_rfl) ⟨rfl, ⟨rfl, rfl, rfl, (.flats (flats_pair _))⟩, trivial⟩ (.slice _ _ _ _ _ (by decide))) <|
    .a 2 2 <| .nil _ _) ?_
  refine aw_p 31 (
    .a 1 3 <| .p (does_c (below_ok tol 20 (by decide) (by decide))) <| .a 1 3 <| .nil _ _) ?_
  refine aw_p 63 (
    .a 2 3 <|
    .p (does_callB (x := .func 16) (ars := #[.tmp 19, .tmp 20]) (ats := #[24, 3]) (g := 16) (vs := [.slice (some ⟨1, 0, none⟩) ps.length 0, .int .i64 (tol % 20)]) (m := 1) (r := 1) (firsts := #[]) (caps := #[]) (args0 := [.slice (some ⟨0, 0, none⟩) ps.length 0, .int .i64 (tol % 20)]) (pre0 := [(0, ⟨(ps.flatMap ptc), 29, true, 2⟩)]) (post0 := [(0, ⟨(ps.flatMap ptc), 29, true, 2⟩), (1, ⟨(ys.flatMap ptc), 29, true, 2⟩)]) (pre := [(1, ⟨(ps.flatMap ptc), 29, true, 2⟩)]) (post := [(1, ⟨(ps.flatMap ptc), 29, true, 2⟩), (3, ⟨(ys.flatMap ptc), 29, true, 2⟩)]) (v0 := .slice (some ⟨1, 0, none⟩) ys.length 0) (v := .slice (some ⟨3, 0, none⟩) ys.length 0) [1, 3] (by kernel_rfl) (by kernel_rfl) (by kernel_rfl) (by kernel_rfl) (tsmall_own ps ys hf (by omega) (tol % 20) hL) (.cons (.slice _ _ _ _ _ (by decide)) (.cons (.flatB (by kernel_rfl)) .nil)) ⟨rfl, ⟨rfl, rfl, rfl, (.flats (flats_pair _))⟩, trivial⟩ (by kernel_rfl) (by kernel_rfl) (by kernel_rfl) ⟨rfl, ⟨rfl, rfl, rfl, (.flats (flats_pair _))⟩, rfl, ⟨rfl, rfl, rfl, (.flats (flats_pair _))⟩, trivial⟩ (.slice _ _ _ _ _ (by decide))) <|
    .a 1 4 <| .nil _ _) ?_
  refine aw_sq 126 127 ?_
  refine aw_d 253 (
    .a 2 4 <| .p (does_b false ((show (decide (((ys.length : Nat) : Int) < 2)) = false from decide_eq_false (by omega)))) <| .a 2 4 <|
    .p (does_indexSlice (t := 24) (x := .tmp 26) (y := .const (.int .i64 0)) (k := 3) (off := 0) (n := ys.length) (c := 0) (z := 2) (kd := .i64) (j := 0) (by kernel_rfl) (by kernel_rfl) (by kernel_rfl) (by kernel_rfl) (by kernel_rfl) (by omega) (by omega)) <|
    .p (does_load (t := 29) (x := .tmp 27) (k := 3) (off := 0) (b := ⟨(ys.flatMap ptc), 29, true, 2⟩) (v := .agg #[.int .i64 ((ys.getD 0 (0, 0)).1), .int .i64 ((ys.getD 0 (0, 0)).2)]) (by kernel_rfl) (by kernel_rfl) (by kernel_rfl) (ldV_pair (j := 0) (by kernel_rfl) (by kernel_rfl) (by omega) (by omega))) <|
    .a 1 4 <| .p (does_indexSlice (t := 24) (x := .tmp 29) (y := .const (.int .i64 0)) (k := 1) (off := 0) (n := ps.length) (c := 0) (z := 2) (kd := .i64) (j := 0) (by kernel_rfl) (by kernel_rfl) (by kernel_rfl) (by kernel_rfl) (by kernel_rfl) (by omega) (by omega)) <|
    .p (does_load (t := 29) (x := .tmp 30) (k := 1) (off := 0) (b := ⟨(ps.flatMap ptc), 29, true, 2⟩) (v := .agg #[.int .i64 ((ps.getD 0 (0, 0)).1), .int .i64 ((ps.getD 0 (0, 0)).2)]) (by kernel_rfl) (by kernel_rfl) (by kernel_rfl) (ldV_pair (j := 0) (by kernel_rfl) (by kernel_rfl) (by omega) (by omega))) <|
    .p (does_e false ((show (!((((ys.getD 0 (0, 0)).1) == ((ps.getD 0 (0, 0)).1)) && ((((ys.getD 0 (0, 0)).2) == ((ps.getD 0 (0, 0)).2)) && true))) = false from (by rw [f0]; simp)))) <| .a 5 4 <|
    .p (does_i ((ys.length - 1 : Nat) : Int) ((show (IntKind.wrap .i64 (((ys.length : Nat) : Int) - 1)) = ((ys.length - 1 : Nat) : Int) from ((wrap_i64 (by omega) (by omega)).trans (by omega)))) .i64) <|
    .p (does_indexSlice (t := 24) (x := .tmp 35) (y := .tmp 38) (k := 3) (off := 0) (n := ys.length) (c := 0) (z := 2) (kd := .i64) (j := ((ys.length - 1 : Nat) : Int)) (by kernel_rfl) (by kernel_rfl) (by kernel_rfl) (by kernel_rfl) (by kernel_rfl) (by omega) (by omega)) <|
    .p (does_load (t := 29) (x := .tmp 39) (k := 3) (off := (0 + (((ys.length - 1 : Nat) : Int)).toNat * 2)) (b := ⟨(ys.flatMap ptc), 29, true, 2⟩) (v := .agg #[.int .i64 ((ys.getD (ys.length - 1) (0, 0)).1), .int .i64 ((ys.getD (ys.length - 1) (0, 0)).2)]) (by kernel_rfl) (by kernel_rfl) (by kernel_rfl) (ldV_pair (j := (ys.length - 1)) (by kernel_rfl) (by kernel_rfl) (by omega) (by omega))) <|
    .a 3 4 <| .p (does_i ((ps.length - 1 : Nat) : Int) ((show (IntKind.wrap .i64 (((ps.length : Nat) : Int) - 1)) = ((ps.length - 1 : Nat) : Int) from ((wrap_i64 (by omega) (by omega)).trans (by omega)))) .i64) <|
    .p (does_indexSlice (t := 24) (x := .tmp 41) (y := .tmp 44) (k := 1) (off := 0) (n := ps.length) (c := 0) (z := 2) (kd := .i64) (j := ((ps.length - 1 : Nat) : Int)) (by kernel_rfl) (by kernel_rfl) (by kernel_rfl) (by kernel_rfl) (by kernel_rfl) (by omega) (by omega)) <|
    .p (does_load (t := 29) (x := .tmp 45) (k := 1) (off := (0 + (((ps.length - 1 : Nat) : Int)).toNat * 2)) (b := ⟨(ps.flatMap ptc), 29, true, 2⟩) (v := .agg #[.int .i64 ((ps.getD (ps.length - 1) (0, 0)).1), .int .i64 ((ps.getD (ps.length - 1) (0, 0)).2)]) (by kernel_rfl) (by kernel_rfl) (by kernel_rfl) (ldV_pair (j := (ps.length - 1)) (by kernel_rfl) (by kernel_rfl) (by omega) (by omega))) <|
    .p (does_e false ((show (!((((ys.getD (ys.length - 1) (0, 0)).1) == ((ps.getD (ps.length - 1) (0, 0)).1)) && ((((ys.getD (ys.length - 1) (0, 0)).2) == ((ps.getD (ps.length - 1) (0, 0)).2)) && true))) = false from (by rw [f1]; simp)))) <| .a 4 4 <|
    .p (does_callB (x := .func 16) (ars := #[.tmp 50, .tmp 51]) (ats := #[24, 3]) (g := 16) (vs := [.slice (some ⟨3, 0, none⟩) ys.length 0, .int .i64 (tol % 20)]) (m := 1) (r := 1) (firsts := #[]) (caps := #[]) (args0 := [.slice (some ⟨0, 0, none⟩) ys.length 0, .int .i64 (tol % 20)]) (pre0 := [(0, ⟨(ys.flatMap ptc), 29, true, 2⟩)]) (post0 := [(0, ⟨(ys.flatMap ptc), 29, true, 2⟩), (1, ⟨(ys.flatMap ptc), 29, true, 2⟩)]) (pre := [(3, ⟨(ys.flatMap ptc), 29, true, 2⟩)]) (post := [(3, ⟨(ys.flatMap ptc), 29, true, 2⟩), (4, ⟨(ys.flatMap ptc), 29, true, 2⟩)]) (v0 := .slice (some ⟨1, 0, none⟩) ys.length 0) (v := .slice (some ⟨4, 0, none⟩) ys.length 0) [3, 4] (by kernel_rfl) (by kernel_rfl) (by kernel_rfl) (by kernel_rfl) (tsmall_own ys ys hfy (by omega) (tol % 20) hL.idem) (.cons (.slice _ _ _ _ _ (by decide)) (.cons (.flatB (by kernel_rfl)) .nil)) ⟨rfl, ⟨rfl, rfl, rfl, (.flats (flats_pair _))⟩, trivial⟩ (by kernel_rfl) (by kernel_rfl) (by kernel_rfl) ⟨rfl, ⟨rfl, rfl, rfl, (.flats (flats_pair _))⟩, rfl, ⟨rfl, rfl, rfl, (.flats (flats_pair _))⟩, trivial⟩ (.slice _ _ _ _ _ (by decide))) <|
    .a 1 5 <|
    .p (does_callB (x := .func 17) (ars := #[.tmp 52, .tmp 53]) (ats := #[24, 24]) (g := 17) (vs := [.slice (some ⟨4, 0, none⟩) ys.length 0, .slice (some ⟨3, 0, none⟩) ys.length 0]) (m := 2) (r := 0) (firsts := #[]) (caps := #[]) (args0 := [.slice (some ⟨0, 0, none⟩) ys.length 0, .slice (some ⟨1, 0, none⟩) ys.length 0]) (pre0 := [(0, ⟨(ys.flatMap ptc), 29, true, 2⟩), (1, ⟨(ys.flatMap ptc), 29, true, 2⟩)]) (post0 := [(0, ⟨(ys.flatMap ptc), 29, true, 2⟩), (1, ⟨(ys.flatMap ptc), 29, true, 2⟩)]) (pre := [(4, ⟨(ys.flatMap ptc), 29, true, 2⟩), (3, ⟨(ys.flatMap ptc), 29, true, 2⟩)]) (post := [(4, ⟨(ys.flatMap ptc), 29, true, 2⟩), (3, ⟨(ys.flatMap ptc), 29, true, 2⟩)]) (v0 := .bool true) (v := .bool true) [4, 3] (by kernel_rfl) (by kernel_rfl) (by kernel_rfl) (by kernel_rfl) (equal_n ys ys ys.length rfl rfl (by omega)) (.cons (.slice _ _ _ _ _ (by decide)) (.cons (.slice _ _ _ _ _ (by decide)) .nil)) ⟨rfl, ⟨rfl, rfl, rfl, (.flats (flats_pair _))⟩, rfl, ⟨rfl, rfl, rfl, (.flats (flats_pair _))⟩, trivial⟩ (by kernel_rfl) (by kernel_rfl) (by kernel_rfl) ⟨rfl, ⟨rfl, rfl, rfl, (.flats (flats_pair _))⟩, rfl, ⟨rfl, rfl, rfl, (.flats (flats_pair _))⟩, trivial⟩ (.flatB (by kernel_rfl))) <|
    .a 2 5 <| .nil _ _) ?_
  refine aw_fl 507 ?_
  refine aw_sk ?_
  refine then_normal ?_
  refine aw_sq 254 255 ?_
  refine aw_p 509 (
    .a 3 5 <| .nil _ _) ?_
  refine aw_bl 0 1019 ?_
  refine aw_lp 2039 ?_
  refine al_w [(1, .int .i64 (tol % 20)), (4, .bool false), (5, .pointer (some ⟨2, 0, none⟩)), (6, .slice (some ⟨3, 0, none⟩) ys.length 0), (57, .slice (some ⟨1, 0, none⟩) ps.length 0), (58, .int .i64 ((ps.length : Nat) : Int)), (59, .int .i64 ((0 : Nat) : Int))] [(0, ⟨(xs.map i64v), 3, false, 1⟩), (1, ⟨(ps.flatMap ptc), 29, true, 2⟩), (2, ⟨[.slice (some ⟨1, 0, none⟩) ps.length 0], 24, true, 1⟩), (3, ⟨(ys.flatMap ptc), 29, true, 2⟩)] ?_ (hc := (by simp [closedB, valsB, valB, List.all_eq_true, List.mem_flatMap, List.mem_range, List.mem_map, i64v, ptc, flat1]; try (intros; simp [valsB, valB, flat1]); try decide))
  refine al_ind (fun i : Nat => (fun (i : Nat) => mkSt 1 [(1, .int .i64 (tol % 20)), (4, .bool false), (5, .pointer (some ⟨2, 0, none⟩)), (6, .slice (some ⟨3, 0, none⟩) ys.length 0), (57, .slice (some ⟨1, 0, none⟩) ps.length 0), (58, .int .i64 ((ps.length : Nat) : Int)), (59, .int .i64 ((i : Nat) : Int))] [(0, ⟨(xs.map i64v), 3, false, 1⟩), (1, ⟨(ps.flatMap ptc), 29, true, 2⟩), (2, ⟨[.slice (some ⟨1, 0, none⟩) ps.length 0], 24, true, 1⟩), (3, ⟨(ys.flatMap ptc), 29, true, 2⟩)]) i) (fun i : Nat => (fun (i : Nat) => (i ≤ ps.length)) i) (fun i : Nat => (fun (i : Nat) => ps.length - i) i) (fun i hi1 ih1 => ?_) 0 (show (0 ≤ ps.length) from by omega)
  obtain ⟨i, hv1⟩ : ∃ z, z = i := ⟨i, rfl⟩; subst hv1
  have hi1' : (i ≤ ps.length) := hi1
  have hi : i ≤ ps.length := hi1'
  show AL _ _ _ (mkSt 1 [(1, .int .i64 (tol % 20)), (4, .bool false), (5, .pointer (some ⟨2, 0, none⟩)), (6, .slice (some ⟨3, 0, none⟩) ys.length 0), (57, .slice (some ⟨1, 0, none⟩) ps.length 0), (58, .int .i64 ((ps.length : Nat) : Int)), (59, .int .i64 ((i : Nat) : Int))] [(0, ⟨(xs.map i64v), 3, false, 1⟩), (1, ⟨(ps.flatMap ptc), 29, true, 2⟩), (2, ⟨[.slice (some ⟨1, 0, none⟩) ps.length 0], 24, true, 1⟩), (3, ⟨(ys.flatMap ptc), 29, true, 2⟩)]) _
  refine al_round ?_
  refine aw_p 4079 (
    .a 1 5 <| .nil _ _) ?_
  refine aw_sq 8158 8159 ?_
  refine aw_cd 16316 16317 (decide (((i : Nat) : Int) < ((ps.length : Nat) : Int))) (fun h1 => ?_) (fun h1 => ?_)
  · have h1p : ((((i : Nat) : Int) < ((ps.length : Nat) : Int))) := by first | (simpa using h1) | (have h1q := h1; simp at h1q; omega) | (have h1q := bx1 h1; simp at h1q; omega)
    have hil : i < ps.length := (by omega); obtain ⟨k, hk, hw⟩ := f3 i hil; have fi := hf i
    refine aw_sk ?_
    refine then_normal ?_
    refine aw_sq 16318 16319 ?_
    refine aw_bl 1 32637 ?_
    refine aw_p 65275 (
      .p (does_indexSlice (t := 24) (x := .tmp 57) (y := .tmp 59) (k := 1) (off := 0) (n := ps.length) (c := 0) (z := 2) (kd := .i64) (j := ((i : Nat) : Int)) (by kernel_rfl) (by kernel_rfl) (by kernel_rfl) (by kernel_rfl) (by kernel_rfl) (by omega) (by omega)) <|
      .p (does_load (t := 29) (x := .tmp 61) (k := 1) (off := (0 + (((i : Nat) : Int)).toNat * 2)) (b := ⟨(ps.flatMap ptc), 29, true, 2⟩) (v := .agg #[.int .i64 ((ps.getD i (0, 0)).1), .int .i64 ((ps.getD i (0, 0)).2)]) (by kernel_rfl) (by kernel_rfl) (by kernel_rfl) (ldV_pair (j := i) (by kernel_rfl) (by kernel_rfl) (by omega) (by omega))) <|
      .a 2 5 <| .nil _ _) ?_
    refine aw_p 130551 (
      .a 3 6 <|
      .p (does_callB (x := .func 18) (ars := #[.tmp 63, .tmp 64, .tmp 65]) (ats := #[24, 29, 3]) (g := 18) (vs := [.slice (some ⟨3, 0, none⟩) ys.length 0, .agg #[.int .i64 ((ps.getD i (0, 0)).1), .int .i64 ((ps.getD i (0, 0)).2)], .int .i64 (tol % 20)]) (m := 1) (r := 0) (firsts := #[]) (caps := #[]) (args0 := [.slice (some ⟨0, 0, none⟩) ys.length 0, .agg #[.int .i64 ((ps.getD i (0, 0)).1), .int .i64 ((ps.getD i (0, 0)).2)], .int .i64 (tol % 20)]) (pre0 := [(0, ⟨(ys.flatMap ptc), 29, true, 2⟩)]) (post0 := [(0, ⟨(ys.flatMap ptc), 29, true, 2⟩)]) (pre := [(3, ⟨(ys.flatMap ptc), 29, true, 2⟩)]) (post := [(3, ⟨(ys.flatMap ptc), 29, true, 2⟩)]) (v0 := .bool true) (v := .bool true) [3] (by kernel_rfl) (by kernel_rfl) (by kernel_rfl) (by kernel_rfl) (nearl_ok ys ((ps.getD i (0, 0)).1) ((ps.getD i (0, 0)).2) (tol % 20) k hfb (by omega) hk hw (by omega) (by omega) (by omega) (by omega)) (.cons (.slice _ _ _ _ _ (by decide)) (.cons (.flatB (by kernel_rfl)) (.cons (.flatB (by kernel_rfl)) .nil))) ⟨rfl, ⟨rfl, rfl, rfl, (.flats (flats_pair _))⟩, trivial⟩ (by kernel_rfl) (by kernel_rfl) (by kernel_rfl) ⟨rfl, ⟨rfl, rfl, rfl, (.flats (flats_pair _))⟩, trivial⟩ (.flatB (by kernel_rfl))) <|
      .a 1 6 <| .nil _ _) ?_
    refine aw_fl 261103 ?_
    refine aw_sk ?_
    refine block_normal ?_
    refine then_normal ?_
    refine aw_p1 (
      .p (does_i (((i : Nat) : Int) + 1) (wrap_i64 (by omega) (by omega)) .i64) <| .a 1 6 <| .nil _ _) ?_
    refine then_normal ?_
    refine al_w [(1, .int .i64 (tol % 20)), (4, .bool false), (5, .pointer (some ⟨2, 0, none⟩)), (6, .slice (some ⟨3, 0, none⟩) ys.length 0), (57, .slice (some ⟨1, 0, none⟩) ps.length 0), (58, .int .i64 ((ps.length : Nat) : Int)), (59, .int .i64 (((i + 1) : Nat) : Int))] [(0, ⟨(xs.map i64v), 3, false, 1⟩), (1, ⟨(ps.flatMap ptc), 29, true, 2⟩), (2, ⟨[.slice (some ⟨1, 0, none⟩) ps.length 0], 24, true, 1⟩), (3, ⟨(ys.flatMap ptc), 29, true, 2⟩)] ?_ (hc := (by simp [closedB, valsB, valB, List.all_eq_true, List.mem_flatMap, List.mem_range, List.mem_map, i64v, ptc, flat1]; try (intros; simp [valsB, valB, flat1]); try decide))
    exact ih1 (i + 1) (show ((i + 1) ≤ ps.length) from by omega) (show ps.length - (i + 1) < ps.length - i from by omega)
  · have h1p : ¬ ((((i : Nat) : Int) < ((ps.length : Nat) : Int))) := by first | (simpa using h1) | (have h1q := h1; simp at h1q; omega) | (have h1q := bx2 h1; simp at h1q; omega)
    refine aw_ex 0 ?_
    refine then_exit ?_
    refine then_exit ?_
    refine block_exit ?_
    refine then_normal ?_
    refine aw_p 511 (
      .a 2 5 <|
      .p (does_callB (x := .func 19) (ars := #[.tmp 69, .tmp 70]) (ats := #[24, 34]) (g := 19) (vs := [.slice (some ⟨3, 0, none⟩) ys.length 0, .func (.func 20) #[] #[.pointer (some ⟨2, 0, none⟩)]]) (m := 3) (r := 0) (firsts := #[]) (caps := #[]) (args0 := [.slice (some ⟨0, 0, none⟩) ys.length 0, .func (.func 20) #[] #[.pointer (some ⟨1, 0, none⟩)]]) (pre0 := [(0, ⟨(ys.flatMap ptc), 29, true, 2⟩), (1, ⟨[.slice (some ⟨2, 0, none⟩) ps.length 0], 24, true, 1⟩), (2, ⟨(ps.flatMap ptc), 29, true, 2⟩)]) (post0 := [(0, ⟨(ys.flatMap ptc), 29, true, 2⟩), (1, ⟨[.slice (some ⟨2, 0, none⟩) ps.length 0], 24, true, 1⟩), (2, ⟨(ps.flatMap ptc), 29, true, 2⟩)]) (pre := [(3, ⟨(ys.flatMap ptc), 29, true, 2⟩), (2, ⟨[.slice (some ⟨1, 0, none⟩) ps.length 0], 24, true, 1⟩), (1, ⟨(ps.flatMap ptc), 29, true, 2⟩)]) (post := [(3, ⟨(ys.flatMap ptc), 29, true, 2⟩), (2, ⟨[.slice (some ⟨1, 0, none⟩) ps.length 0], 24, true, 1⟩), (1, ⟨(ps.flatMap ptc), 29, true, 2⟩)]) (v0 := .bool false) (v := .bool false) [3, 2, 1] (by kernel_rfl) (by kernel_rfl) (by kernel_rfl) (by kernel_rfl) (ctc_ok ps ys (by omega) (by omega) (by omega) (fun i hi => List.any_eq_true.2 ⟨_, f2 _ (Sp.mem_getD hi), (Sp.eqTo_iff _ _).2 rfl⟩)) (.cons (.slice _ _ _ _ _ (by decide)) (.cons (.funcL (.flats (by kernel_rfl)) (.cons (.ptr _ _ (by decide)) .nil)) .nil)) ⟨rfl, ⟨rfl, rfl, rfl, (.flats (flats_pair _))⟩, rfl, ⟨rfl, rfl, rfl, (.cons (.slice _ _ _ _ _ (by decide)) .nil)⟩, rfl, ⟨rfl, rfl, rfl, (.flats (flats_pair _))⟩, trivial⟩ (by kernel_rfl) (by kernel_rfl) (by kernel_rfl) ⟨rfl, ⟨rfl, rfl, rfl, (.flats (flats_pair _))⟩, rfl, ⟨rfl, rfl, rfl, (.cons (.slice _ _ _ _ _ (by decide)) .nil)⟩, rfl, ⟨rfl, rfl, rfl, (.flats (flats_pair _))⟩, trivial⟩ (.flatB (by kernel_rfl))) <|
      .a 2 5 <| .nil _ _) ?_
    refine aw_rt ?_
    exact en_ret [.bool true] (by kernel_rfl)


end Go.Proofs.Ytadifmimefmcnaa.Am
