import Derived.Test.YtadifmimefmcnaaProg
import Derived.Test.YtadifmimefmcnaaM2
import Derived.Test.YtadifmimefmcnaaM9
import Derived.Test.YtadifmimefmcnaaM11
import Derived.Test.YtadifmimefmcnaaM12
namespace Go.Proofs.Ytadifmimefmcnaa.Am
open Go Go.Proofs
set_option maxRecDepth 100000
set_option maxHeartbeats 4000000
set_option linter.unusedVariables false
set_option linter.unusedSimpArgs false
theorem thinSafe_nil (xs : List Int) (tol : Int) (hz : xs.length ≤ 9223372036854775807) (hZ : Sp.lnz xs 0 [] = []) :
    AC Try.prog 6 1 ([.slice (some ⟨0, 0, none⟩) xs.length 0, .int .i64 tol]) [(0, ⟨(xs.map i64v), 3, false, 1⟩)] (.bool true) [] := by
  have t0 := Sp.emod_bd tol (n := 20) (by decide); have hc : Sp.lnsE ([] : List Row) = 0 := Sp.lns_nil; obtain ⟨Y, hY⟩ : ∃ Y, Y = Sp.keepN (tol % 20) ([] : List Row) ([] : List Row).length := ⟨_, rfl⟩; obtain ⟨hYc, hYl, hYf, hYs⟩ := Sp.keep_all hc hY; have hXl : ([] : List Row).length ≤ 20 := (Sp.lns_ok hc).1; have hXf := Sp.okTo_few (Sp.lns_ok hc).2.1
  refine ac_in Try.func6 (fun w0 W pin => ?_)
  refine aw_p 3 (
    .a 1 1 <| .nil _ _) ?_
  refine aw_sq 6 7 ?_
  refine aw_p 13 (
    .p (does_c (thinBegun_ok)) <| .a 2 1 <| .p (does_c (segBegun_ok)) <| .a 2 1 <| .nil _ _) ?_
  refine aw_fl 27 ?_
  refine aw_sk ?_
  refine then_normal ?_
  refine aw_p 15 (
    .a 1 1 <|
    .p (does_callB (x := .func 29) (ars := #[.tmp 19]) (ats := #[22]) (g := 29) (vs := [.slice (some ⟨0, 0, none⟩) xs.length 0]) (m := 1) (r := 0) (firsts := #[]) (caps := #[]) (args0 := [.slice (some ⟨0, 0, none⟩) xs.length 0]) (pre0 := [(0, ⟨(xs.map i64v), 3, false, 1⟩)]) (post0 := []) (pre := [(0, ⟨(xs.map i64v), 3, false, 1⟩)]) (post := []) (v0 := .slice none 0 0) (v := .slice none 0 0) [0] (by kernel_rfl) (by kernel_rfl) (by kernel_rfl) (by kernel_rfl) (lines_nil xs hz [] hZ rfl) (.cons (.slice _ _ _ _ _ (by decide)) .nil) ⟨rfl, ⟨rfl, rfl, rfl, (.flats (flats_map (fun _ => rfl) _))⟩, trivial⟩ (by kernel_rfl) (by kernel_rfl) (by kernel_rfl) trivial (.flatB (by kernel_rfl))) <|
    .a 1 1 <| .nil _ _) ?_
  refine aw_weak (nil_fam (kh := 3) (t := 5) (TH := 24) (TP := 29) (T := [(1, .int .i64 tol)]) rfl ⟨by decide, by decide⟩ (by kernel_rfl) (by kernel_rfl) (by kernel_rfl)) ?_
  refine aw_p 31 (
    .a 1 4 <| .p (does_c (below_ok tol 20 (by decide) (by decide))) <| .a 1 4 <| .nil _ _) ?_
  refine aw_p 63 (
    .a 2 4 <|
    .p (does_famK 3 4 nA (X := ([] : List Row)) (Y := Y) (TH := 24) (TP := 29) (n := (([] : List Row).length)) #[.tmp 24, .tmp 25] #[36, 3] [.slice (some ⟨3, 0, none⟩) (([] : List Row).length) 0, .int .i64 (tol % 20)] (by have h := keep_ok ([] : List Row) (tol % 20) hc; rw [← hY] at h; exact h) rfl hYl ⟨24, false, by kernel_rfl⟩ (fun j _ => ⟨29, false, Eq.trans (b := (fam2 29 ([] : List Row) noB) (nA j)) (by kernel_rfl) (fam2_A _ _ _ _)⟩) (show RenL (sigK (([] : List Row).length) 3 4 nA) (· < 1 + (([] : List Row).length)) [.slice (some ⟨0, 0, none⟩) (([] : List Row).length) 0, .int .i64 (tol % 20)] [.slice (some ⟨3, 0, none⟩) (([] : List Row).length) 0, .int .i64 (tol % 20)] from (.cons (.slice 0 _ _ _ _ (by show 0 < 1 + _; omega)) (.cons (.flatB (by kernel_rfl)) .nil))) (by decide) (by kernel_rfl) (fun j => Eq.trans (b := (fam2 29 ([] : List Row) noB) (nB j)) (by kernel_rfl) (fam2_B _ _ _ _))) <|
    .a 5 5 <| .nil _ _) ?_
  refine aw_weak (after_keep (kh := 3) (kh2 := 4) (X := ([] : List Row)) (Y := Y) (TH := 24) (TP := 29) (T := [(1, .int .i64 (tol % 20)), (5, .slice (some ⟨3, 0, none⟩) (([] : List Row).length) 0), (6, .slice (some ⟨4, 0, none⟩) (([] : List Row).length) 0), (7, .int .i64 0)]) [] rfl ⟨by decide, by decide, by decide⟩ (by kernel_rfl) (by kernel_rfl) (by intro k; kernel_rfl)) ?_
  refine aw_sq 126 127 ?_
  refine aw_p 253 (
    .a 7 10 <| .p (does_b false ((show (((([] : List Row).length : Nat) : Int) != ((([] : List Row).length : Nat) : Int)) = false from by simp))) <| .a 3 10 <|
    .p (does_fam 4 nB #[.tmp 39] #[36] [.slice (some ⟨4, 0, none⟩) (([] : List Row).length) 0] ((by have h := check_ok Y (fun i => by obtain ⟨_, hoo, _, _⟩ := Sp.lns_ok hYc; by_cases hi : i < Y.length; exact Nat.le_trans (Sp.rowE_0 (hoo i hi)).2.1 (by decide); rw [List.getD_eq_getElem?_getD, List.getElem?_eq_none_iff.2 (by omega)]; simp) (by rw [hYl]; omega); rw [hYc, hYl] at h; exact h)) ⟨24, false, by kernel_rfl⟩ (fun j _ => ⟨29, false, Eq.trans (b := (fam2 29 ([] : List Row) (roB 29 Y)) (nB j)) (by kernel_rfl) (fam2_roB _ _ _ _)⟩) (show RenL (famS 4 nB) (· < 1 + (([] : List Row).length)) [.slice (some ⟨0, 0, none⟩) (([] : List Row).length) 0] [.slice (some ⟨4, 0, none⟩) (([] : List Row).length) 0] from (.cons (.slice 0 _ _ _ _ (by show 0 < 1 + _; omega)) .nil)) (hn := hYl.symm)) <|
    .a 2 10 <| .nil _ _) ?_
  refine aw_fl 507 ?_
  refine aw_sk ?_
  refine then_normal ?_
  refine aw_sq 254 255 ?_
  refine aw_p 509 (
    .a 3 10 <| .nil _ _) ?_
  refine aw_bl 0 1019 ?_
  refine aw_lp 2039 ?_
  refine al_wF [(1, .int .i64 (tol % 20)), (6, .slice (some ⟨4, 0, none⟩) (([] : List Row).length) 0), (43, .slice (some ⟨3, 0, none⟩) (([] : List Row).length) 0), (44, .int .i64 ((([] : List Row).length : Nat) : Int)), (45, .int .i64 ((0 : Nat) : Int))] [(3, ⟨(hds nA ([] : List Row)), 24, false, 1⟩), (4, ⟨(hds nB Y), 24, false, 1⟩)] (fam2 29 ([] : List Row) (roB 29 Y)) ⟨(hds_clN nA_ge _ _ _), (hds_clN nB_ge _ _ _), trivial⟩ (fam2_flat (roB_flat _ _)) ?_
  refine al_ind (fun i : Nat => (fun (u : Nat) => mkF 1 [(1, .int .i64 (tol % 20)), (6, .slice (some ⟨4, 0, none⟩) (([] : List Row).length) 0), (43, .slice (some ⟨3, 0, none⟩) (([] : List Row).length) 0), (44, .int .i64 ((([] : List Row).length : Nat) : Int)), (45, .int .i64 ((u : Nat) : Int))] [(3, ⟨(hds nA ([] : List Row)), 24, false, 1⟩), (4, ⟨(hds nB Y), 24, false, 1⟩)] (fam2 29 ([] : List Row) (roB 29 Y))) i) (fun i : Nat => (fun (u : Nat) => (u ≤ ([] : List Row).length)) i) (fun i : Nat => (fun (u : Nat) => ([] : List Row).length - u) i) (fun i hi1 ih1 => ?_) 0 (show (0 ≤ ([] : List Row).length) from by omega)
  obtain ⟨u, hv1⟩ : ∃ z, z = i := ⟨i, rfl⟩; subst hv1
  have hi1' : (u ≤ ([] : List Row).length) := hi1
  have hi : u ≤ ([] : List Row).length := hi1'
  show AL _ _ _ (mkF 1 [(1, .int .i64 (tol % 20)), (6, .slice (some ⟨4, 0, none⟩) (([] : List Row).length) 0), (43, .slice (some ⟨3, 0, none⟩) (([] : List Row).length) 0), (44, .int .i64 ((([] : List Row).length : Nat) : Int)), (45, .int .i64 ((u : Nat) : Int))] [(3, ⟨(hds nA ([] : List Row)), 24, false, 1⟩), (4, ⟨(hds nB Y), 24, false, 1⟩)] (fam2 29 ([] : List Row) (roB 29 Y))) _
  refine al_round ?_
  refine aw_p 4079 (
    .a 1 10 <| .nil _ _) ?_
  refine aw_sq 8158 8159 ?_
  refine aw_cd 16316 16317 (decide (((u : Nat) : Int) < ((([] : List Row).length : Nat) : Int))) (fun h1 => ?_) (fun h1 => ?_)
  · have hux : u < ([] : List Row).length := (by have := of_decide_eq_true h1; omega); obtain ⟨x2, x200, y2, y200, hT⟩ := hYs u hux; have hyx := hT.len; have fx := hXf u; have fy := hYf u
    refine aw_sk ?_
    refine then_normal ?_
    refine aw_sq 16318 16319 ?_
    refine aw_bl 1 32637 ?_
    refine aw_p 65275 (
      .a 1 10 <| .p (does_indexSlice (t := 36) (x := .tmp 43) (y := .tmp 45) (k := 3) (off := 0) (n := (([] : List Row).length)) (c := 0) (z := 1) (kd := .i64) (j := ((u : Nat) : Int)) (by kernel_rfl) (by kernel_rfl) (by kernel_rfl) (by kernel_rfl) (by kernel_rfl) (by omega) (by omega)) <|
      .p (does_load (t := 24) (x := .tmp 48) (k := 3) (off := (0 + (((u : Nat) : Int)).toNat * 1)) (b := ⟨(hds nA ([] : List Row)), 24, false, 1⟩) (v := .slice (some ⟨(nA u), 0, none⟩) ((([] : List Row).getD u []).length) 0) (by kernel_rfl) (by kernel_rfl) (by kernel_rfl) (by rw [show (0 + (((u : Nat) : Int)).toNat * 1) = u from (by omega)]; exact ldV_hds (by kernel_rfl) (by kernel_rfl) (by omega))) <|
      .a 2 10 <| .nil _ _) ?_
    refine aw_alias 8 (nA u) 9 ((([] : List Row).getD u []).length) ⟨((([] : List Row).getD u []).flatMap ptc), 29, false, 2⟩ [(1, .int .i64 (tol % 20)), (6, .slice (some ⟨4, 0, none⟩) (([] : List Row).length) 0), (8, .int .i64 ((u : Nat) : Int)), (43, .slice (some ⟨3, 0, none⟩) (([] : List Row).length) 0), (44, .int .i64 ((([] : List Row).length : Nat) : Int)), (45, .int .i64 ((u : Nat) : Int)), (46, .bool (decide (((u : Nat) : Int) < ((([] : List Row).length : Nat) : Int))))] [(3, ⟨(hds nA ([] : List Row)), 24, false, 1⟩), (4, ⟨(hds nB Y), 24, false, 1⟩)] (fam2 29 ([] : List Row) (roB 29 Y)) (Eq.trans (b := (fam2 29 ([] : List Row) (roB 29 Y)) (nA u)) (by kernel_rfl) (fam2_A _ _ _ _)) (flats_pair _) ⟨(hds_clN nA_ge _ _ _), (hds_clN nB_ge _ _ _), trivial⟩ (fam2_flat (roB_flat _ _)) ?_
    refine aw_p 130551 (
      .a 2 10 <| .p (does_indexSlice (t := 36) (x := .tmp 50) (y := .tmp 51) (k := 4) (off := 0) (n := (([] : List Row).length)) (c := 0) (z := 1) (kd := .i64) (j := ((u : Nat) : Int)) (by kernel_rfl) (by kernel_rfl) (by kernel_rfl) (by kernel_rfl) (by kernel_rfl) (by omega) (by omega)) <|
      .p (does_load (t := 24) (x := .tmp 52) (k := 4) (off := (0 + (((u : Nat) : Int)).toNat * 1)) (b := ⟨(hds nB Y), 24, false, 1⟩) (v := .slice (some ⟨(nB u), 0, none⟩) ((Y.getD u []).length) 0) (by kernel_rfl) (by kernel_rfl) (by kernel_rfl) (by rw [show (0 + (((u : Nat) : Int)).toNat * 1) = u from (by omega)]; exact ldV_hds (by kernel_rfl) (by kernel_rfl) (by omega))) <|
      .a 1 10 <| .nil _ _) ?_
    refine aw_alias 9 (nB u) 10 ((Y.getD u []).length) ⟨((Y.getD u []).flatMap ptc), 29, false, 2⟩ [(1, .int .i64 (tol % 20)), (6, .slice (some ⟨4, 0, none⟩) (([] : List Row).length) 0), (8, .int .i64 ((u : Nat) : Int)), (9, .slice (some ⟨8, 0, none⟩) ((([] : List Row).getD u []).length) 0), (43, .slice (some ⟨3, 0, none⟩) (([] : List Row).length) 0), (44, .int .i64 ((([] : List Row).length : Nat) : Int)), (45, .int .i64 ((u : Nat) : Int)), (46, .bool (decide (((u : Nat) : Int) < ((([] : List Row).length : Nat) : Int))))] [(3, ⟨(hds nA ([] : List Row)), 24, false, 1⟩), (4, ⟨(hds nB Y), 24, false, 1⟩), (8, ⟨((([] : List Row).getD u []).flatMap ptc), 29, false, 2⟩)] (fam2 29 ([] : List Row) (roB 29 Y)) (Eq.trans (b := (fam2 29 ([] : List Row) (roB 29 Y)) (nB u)) (by kernel_rfl) (fam2_roB _ _ _ _)) (flats_pair _) ⟨(hds_clN nA_ge _ _ _), (hds_clN nB_ge _ _ _), (pts_cl _ _ _), trivial⟩ (fam2_flat (roB_flat _ _)) ?_
    refine aw_sq 261102 261103 ?_
    refine aw_d 522205 (
      .a 2 10 <| .p (does_b false ((show (decide ((((Y.getD u []).length : Nat) : Int) < 2)) = false from decide_eq_false (by omega)))) <| .a 2 10 <|
      .p (does_indexSlice (t := 24) (x := .tmp 58) (y := .const (.int .i64 0)) (k := 9) (off := 0) (n := ((Y.getD u []).length)) (c := 0) (z := 2) (kd := .i64) (j := 0) (by kernel_rfl) (by kernel_rfl) (by kernel_rfl) (by kernel_rfl) (by kernel_rfl) (by omega) (by omega)) <|
      .p (does_load (t := 29) (x := .tmp 59) (k := 9) (off := 0) (b := ⟨((Y.getD u []).flatMap ptc), 29, false, 2⟩) (v := .agg #[.int .i64 (((Y.getD u []).getD 0 (0, 0)).1), .int .i64 (((Y.getD u []).getD 0 (0, 0)).2)]) (by kernel_rfl) (by kernel_rfl) (by kernel_rfl) (ldV_pair (j := 0) (by kernel_rfl) (by kernel_rfl) (by omega) (by omega))) <|
      .a 1 10 <| .p (does_indexSlice (t := 24) (x := .tmp 61) (y := .const (.int .i64 0)) (k := 8) (off := 0) (n := ((([] : List Row).getD u []).length)) (c := 0) (z := 2) (kd := .i64) (j := 0) (by kernel_rfl) (by kernel_rfl) (by kernel_rfl) (by kernel_rfl) (by kernel_rfl) (by omega) (by omega)) <|
      .p (does_load (t := 29) (x := .tmp 62) (k := 8) (off := 0) (b := ⟨((([] : List Row).getD u []).flatMap ptc), 29, false, 2⟩) (v := .agg #[.int .i64 (((([] : List Row).getD u []).getD 0 (0, 0)).1), .int .i64 (((([] : List Row).getD u []).getD 0 (0, 0)).2)]) (by kernel_rfl) (by kernel_rfl) (by kernel_rfl) (ldV_pair (j := 0) (by kernel_rfl) (by kernel_rfl) (by omega) (by omega))) <|
      .p (does_e false ((show (!(((((Y.getD u []).getD 0 (0, 0)).1) == (((([] : List Row).getD u []).getD 0 (0, 0)).1)) && (((((Y.getD u []).getD 0 (0, 0)).2) == (((([] : List Row).getD u []).getD 0 (0, 0)).2)) && true))) = false from (by rw [show (Y.getD u []).getD 0 (0, 0) = (([] : List Row).getD u []).getD 0 (0, 0) from hT.first]; simp)))) <|
      .a 5 10 <| .p (does_i (((Y.getD u []).length - 1 : Nat) : Int) ((show (IntKind.wrap .i64 ((((Y.getD u []).length : Nat) : Int) - 1)) = (((Y.getD u []).length - 1 : Nat) : Int) from ((wrap_i64 (by omega) (by omega)).trans (by omega)))) .i64) <|
      .p (does_indexSlice (t := 24) (x := .tmp 67) (y := .tmp 70) (k := 9) (off := 0) (n := ((Y.getD u []).length)) (c := 0) (z := 2) (kd := .i64) (j := (((Y.getD u []).length - 1 : Nat) : Int)) (by kernel_rfl) (by kernel_rfl) (by kernel_rfl) (by kernel_rfl) (by kernel_rfl) (by omega) (by omega)) <|
      .p (does_load (t := 29) (x := .tmp 71) (k := 9) (off := (0 + ((((Y.getD u []).length - 1 : Nat) : Int)).toNat * 2)) (b := ⟨((Y.getD u []).flatMap ptc), 29, false, 2⟩) (v := .agg #[.int .i64 (((Y.getD u []).getD ((Y.getD u []).length - 1) (0, 0)).1), .int .i64 (((Y.getD u []).getD ((Y.getD u []).length - 1) (0, 0)).2)]) (by kernel_rfl) (by kernel_rfl) (by kernel_rfl) (ldV_pair (j := ((Y.getD u []).length - 1)) (by kernel_rfl) (by kernel_rfl) (by omega) (by omega))) <|
      .a 3 10 <| .p (does_i (((([] : List Row).getD u []).length - 1 : Nat) : Int) ((show (IntKind.wrap .i64 ((((([] : List Row).getD u []).length : Nat) : Int) - 1)) = (((([] : List Row).getD u []).length - 1 : Nat) : Int) from ((wrap_i64 (by omega) (by omega)).trans (by omega)))) .i64) <|
      .p (does_indexSlice (t := 24) (x := .tmp 73) (y := .tmp 76) (k := 8) (off := 0) (n := ((([] : List Row).getD u []).length)) (c := 0) (z := 2) (kd := .i64) (j := (((([] : List Row).getD u []).length - 1 : Nat) : Int)) (by kernel_rfl) (by kernel_rfl) (by kernel_rfl) (by kernel_rfl) (by kernel_rfl) (by omega) (by omega)) <|
      .p (does_load (t := 29) (x := .tmp 77) (k := 8) (off := (0 + ((((([] : List Row).getD u []).length - 1 : Nat) : Int)).toNat * 2)) (b := ⟨((([] : List Row).getD u []).flatMap ptc), 29, false, 2⟩) (v := .agg #[.int .i64 (((([] : List Row).getD u []).getD ((([] : List Row).getD u []).length - 1) (0, 0)).1), .int .i64 (((([] : List Row).getD u []).getD ((([] : List Row).getD u []).length - 1) (0, 0)).2)]) (by kernel_rfl) (by kernel_rfl) (by kernel_rfl) (ldV_pair (j := ((([] : List Row).getD u []).length - 1)) (by kernel_rfl) (by kernel_rfl) (by omega) (by omega))) <|
      .p (does_e false ((show (!(((((Y.getD u []).getD ((Y.getD u []).length - 1) (0, 0)).1) == (((([] : List Row).getD u []).getD ((([] : List Row).getD u []).length - 1) (0, 0)).1)) && (((((Y.getD u []).getD ((Y.getD u []).length - 1) (0, 0)).2) == (((([] : List Row).getD u []).getD ((([] : List Row).getD u []).length - 1) (0, 0)).2)) && true))) = false from (by rw [show (Y.getD u []).getD ((Y.getD u []).length - 1) (0, 0) = (([] : List Row).getD u []).getD ((([] : List Row).getD u []).length - 1) (0, 0) from hT.last]; simp)))) <|
      .a 6 10 <| .p (does_b false ((show (decide ((((Y.getD u []).length : Nat) : Int) > (((([] : List Row).getD u []).length : Nat) : Int))) = false from decide_eq_false (by omega)))) <| .a 1 10 <| .nil _ _) ?_
    refine aw_fl 1044411 ?_
    refine aw_sk ?_
    refine then_normal ?_
    refine aw_p 522207 (
      .a 3 10 <| .nil _ _) ?_
    refine aw_bl 2 1044415 ?_
    refine aw_lp 2088831 ?_
    refine al_wF [(1, .int .i64 (tol % 20)), (6, .slice (some ⟨4, 0, none⟩) (([] : List Row).length) 0), (8, .int .i64 ((u : Nat) : Int)), (9, .slice (some ⟨8, 0, none⟩) ((([] : List Row).getD u []).length) 0), (10, .slice (some ⟨9, 0, none⟩) ((Y.getD u []).length) 0), (43, .slice (some ⟨3, 0, none⟩) (([] : List Row).length) 0), (44, .int .i64 ((([] : List Row).length : Nat) : Int)), (45, .int .i64 ((u : Nat) : Int)), (88, .slice (some ⟨8, 0, none⟩) ((([] : List Row).getD u []).length) 0), (89, .int .i64 (((([] : List Row).getD u []).length : Nat) : Int)), (90, .int .i64 ((0 : Nat) : Int))] [(3, ⟨(hds nA ([] : List Row)), 24, false, 1⟩), (4, ⟨(hds nB Y), 24, false, 1⟩), (8, ⟨((([] : List Row).getD u []).flatMap ptc), 29, false, 2⟩), (9, ⟨((Y.getD u []).flatMap ptc), 29, false, 2⟩)] (fam2 29 ([] : List Row) (roB 29 Y)) ⟨(hds_clN nA_ge _ _ _), (hds_clN nB_ge _ _ _), (pts_cl _ _ _), (pts_cl _ _ _), trivial⟩ (fam2_flat (roB_flat _ _)) ?_
    refine al_ind (fun i : Nat => (fun (e : Nat) => mkF 1 [(1, .int .i64 (tol % 20)), (6, .slice (some ⟨4, 0, none⟩) (([] : List Row).length) 0), (8, .int .i64 ((u : Nat) : Int)), (9, .slice (some ⟨8, 0, none⟩) ((([] : List Row).getD u []).length) 0), (10, .slice (some ⟨9, 0, none⟩) ((Y.getD u []).length) 0), (43, .slice (some ⟨3, 0, none⟩) (([] : List Row).length) 0), (44, .int .i64 ((([] : List Row).length : Nat) : Int)), (45, .int .i64 ((u : Nat) : Int)), (88, .slice (some ⟨8, 0, none⟩) ((([] : List Row).getD u []).length) 0), (89, .int .i64 (((([] : List Row).getD u []).length : Nat) : Int)), (90, .int .i64 ((e : Nat) : Int))] [(3, ⟨(hds nA ([] : List Row)), 24, false, 1⟩), (4, ⟨(hds nB Y), 24, false, 1⟩), (8, ⟨((([] : List Row).getD u []).flatMap ptc), 29, false, 2⟩), (9, ⟨((Y.getD u []).flatMap ptc), 29, false, 2⟩)] (fam2 29 ([] : List Row) (roB 29 Y))) i) (fun i : Nat => (fun (e : Nat) => (e ≤ (([] : List Row).getD u []).length)) i) (fun i : Nat => (fun (e : Nat) => (([] : List Row).getD u []).length - e) i) (fun i hi2 ih2 => ?_) 0 (show (0 ≤ (([] : List Row).getD u []).length) from by omega)
    obtain ⟨e, hv2⟩ : ∃ z, z = i := ⟨i, rfl⟩; subst hv2
    have hi2' : (e ≤ (([] : List Row).getD u []).length) := hi2
    have he : e ≤ (([] : List Row).getD u []).length := hi2'
    show AL _ _ _ (mkF 1 [(1, .int .i64 (tol % 20)), (6, .slice (some ⟨4, 0, none⟩) (([] : List Row).length) 0), (8, .int .i64 ((u : Nat) : Int)), (9, .slice (some ⟨8, 0, none⟩) ((([] : List Row).getD u []).length) 0), (10, .slice (some ⟨9, 0, none⟩) ((Y.getD u []).length) 0), (43, .slice (some ⟨3, 0, none⟩) (([] : List Row).length) 0), (44, .int .i64 ((([] : List Row).length : Nat) : Int)), (45, .int .i64 ((u : Nat) : Int)), (88, .slice (some ⟨8, 0, none⟩) ((([] : List Row).getD u []).length) 0), (89, .int .i64 (((([] : List Row).getD u []).length : Nat) : Int)), (90, .int .i64 ((e : Nat) : Int))] [(3, ⟨(hds nA ([] : List Row)), 24, false, 1⟩), (4, ⟨(hds nB Y), 24, false, 1⟩), (8, ⟨((([] : List Row).getD u []).flatMap ptc), 29, false, 2⟩), (9, ⟨((Y.getD u []).flatMap ptc), 29, false, 2⟩)] (fam2 29 ([] : List Row) (roB 29 Y))) _
    refine al_round ?_
    refine aw_p 4177663 (
      .a 1 10 <| .nil _ _) ?_
    refine aw_sq 8355326 8355327 ?_
    refine aw_cd 16710652 16710653 (decide (((e : Nat) : Int) < (((([] : List Row).getD u []).length : Nat) : Int))) (fun h2 => ?_) (fun h2 => ?_)
    · have hel : e < (([] : List Row).getD u []).length := (by have := of_decide_eq_true h2; omega); obtain ⟨k, hk, hw⟩ := hT.nl t0.1 hel; have fe := fx e
      refine aw_sk ?_
      refine then_normal ?_
      refine aw_sq 16710654 16710655 ?_
      refine aw_bl 3 33421309 ?_
      refine aw_p 66842619 (
        .p (does_indexSlice (t := 24) (x := .tmp 88) (y := .tmp 90) (k := 8) (off := 0) (n := ((([] : List Row).getD u []).length)) (c := 0) (z := 2) (kd := .i64) (j := ((e : Nat) : Int)) (by kernel_rfl) (by kernel_rfl) (by kernel_rfl) (by kernel_rfl) (by kernel_rfl) (by omega) (by omega)) <|
        .p (does_load (t := 29) (x := .tmp 92) (k := 8) (off := (0 + (((e : Nat) : Int)).toNat * 2)) (b := ⟨((([] : List Row).getD u []).flatMap ptc), 29, false, 2⟩) (v := .agg #[.int .i64 (((([] : List Row).getD u []).getD e (0, 0)).1), .int .i64 (((([] : List Row).getD u []).getD e (0, 0)).2)]) (by kernel_rfl) (by kernel_rfl) (by kernel_rfl) (ldV_pair (j := e) (by kernel_rfl) (by kernel_rfl) (by omega) (by omega))) <|
        .a 2 10 <| .nil _ _) ?_
      refine aw_p 133685239 (
        .a 3 11 <|
        .p (does_ro [9] #[.tmp 94, .tmp 95, .tmp 96] #[24, 29, 3] [.slice (some ⟨9, 0, none⟩) ((Y.getD u []).length) 0, .agg #[.int .i64 (((([] : List Row).getD u []).getD e (0, 0)).1), .int .i64 (((([] : List Row).getD u []).getD e (0, 0)).2)], .int .i64 (tol % 20)] [(29, false)] (nearl_ro (Y.getD u []) (((([] : List Row).getD u []).getD e (0, 0)).1) (((([] : List Row).getD u []).getD e (0, 0)).2) (tol % 20) k fy (by omega) hk hw (by omega) (by omega) (by omega) (by omega)) (.cons (.slice _ _ _ _ _ (by decide)) (.cons (.flatB (by kernel_rfl)) (.cons (.flatB (by kernel_rfl)) .nil))) ⟨⟨rfl, flats_pair _⟩, trivial⟩) <|
        .a 1 11 <| .nil _ _) ?_
      refine aw_fl 267370479 ?_
      refine aw_sk ?_
      refine block_normal ?_
      refine then_normal ?_
      refine aw_p1 (
        .p (does_i (((e : Nat) : Int) + 1) (wrap_i64 (by omega) (by omega)) .i64) <| .a 1 11 <| .nil _ _) ?_
      refine then_normal ?_
      refine al_wF [(1, .int .i64 (tol % 20)), (6, .slice (some ⟨4, 0, none⟩) (([] : List Row).length) 0), (8, .int .i64 ((u : Nat) : Int)), (9, .slice (some ⟨8, 0, none⟩) ((([] : List Row).getD u []).length) 0), (10, .slice (some ⟨9, 0, none⟩) ((Y.getD u []).length) 0), (43, .slice (some ⟨3, 0, none⟩) (([] : List Row).length) 0), (44, .int .i64 ((([] : List Row).length : Nat) : Int)), (45, .int .i64 ((u : Nat) : Int)), (88, .slice (some ⟨8, 0, none⟩) ((([] : List Row).getD u []).length) 0), (89, .int .i64 (((([] : List Row).getD u []).length : Nat) : Int)), (90, .int .i64 (((e + 1) : Nat) : Int))] [(3, ⟨(hds nA ([] : List Row)), 24, false, 1⟩), (4, ⟨(hds nB Y), 24, false, 1⟩), (8, ⟨((([] : List Row).getD u []).flatMap ptc), 29, false, 2⟩), (9, ⟨((Y.getD u []).flatMap ptc), 29, false, 2⟩)] (fam2 29 ([] : List Row) (roB 29 Y)) ⟨(hds_clN nA_ge _ _ _), (hds_clN nB_ge _ _ _), (pts_cl _ _ _), (pts_cl _ _ _), trivial⟩ (fam2_flat (roB_flat _ _)) ?_
      exact ih2 (e + 1) (show ((e + 1) ≤ (([] : List Row).getD u []).length) from by omega) (show (([] : List Row).getD u []).length - (e + 1) < (([] : List Row).getD u []).length - e from by omega)
    · refine aw_ex 2 ?_
      refine then_exit ?_
      refine then_exit ?_
      refine block_exit ?_
      refine block_normal ?_
      refine then_normal ?_
      refine aw_p1 (
        .p (does_i (((u : Nat) : Int) + 1) (wrap_i64 (by omega) (by omega)) .i64) <| .a 1 10 <| .nil _ _) ?_
      refine then_normal ?_
      refine al_wF [(1, .int .i64 (tol % 20)), (6, .slice (some ⟨4, 0, none⟩) (([] : List Row).length) 0), (43, .slice (some ⟨3, 0, none⟩) (([] : List Row).length) 0), (44, .int .i64 ((([] : List Row).length : Nat) : Int)), (45, .int .i64 (((u + 1) : Nat) : Int))] [(3, ⟨(hds nA ([] : List Row)), 24, false, 1⟩), (4, ⟨(hds nB Y), 24, false, 1⟩)] (fam2 29 ([] : List Row) (roB 29 Y)) ⟨(hds_clN nA_ge _ _ _), (hds_clN nB_ge _ _ _), trivial⟩ (fam2_flat (roB_flat _ _)) ?_
      exact ih1 (u + 1) (show ((u + 1) ≤ ([] : List Row).length) from by omega) (show ([] : List Row).length - (u + 1) < ([] : List Row).length - u from by omega)
  · skip
    refine aw_ex 0 ?_
    refine then_exit ?_
    refine then_exit ?_
    refine block_exit ?_
    refine then_normal ?_
    refine aw_p 511 (
      .a 1 10 <| .nil _ _) ?_
    refine aw_rt ?_
    exact en_ret [.bool true] (by kernel_rfl)
theorem thinSafe_some (xs : List Int) (tol : Int) (hz : xs.length ≤ 9223372036854775807) (Z : List Row) (hZ0 : Sp.lnz xs 0 [] = Z) (hZ : Z ≠ []) :
    AC Try.prog 6 1 ([.slice (some ⟨0, 0, none⟩) xs.length 0, .int .i64 tol]) [(0, ⟨(xs.map i64v), 3, false, 1⟩)] (.bool true) [] := by
  have t0 := Sp.emod_bd tol (n := 20) (by decide); have hc : Sp.lnsE Z = 0 := (by rw [← hZ0]; exact Sp.lnz_ok); obtain ⟨Y, hY⟩ : ∃ Y, Y = Sp.keepN (tol % 20) Z Z.length := ⟨_, rfl⟩; obtain ⟨hYc, hYl, hYf, hYs⟩ := Sp.keep_all hc hY; have hXl : Z.length ≤ 20 := (Sp.lns_ok hc).1; have hXf := Sp.okTo_few (Sp.lns_ok hc).2.1
  refine ac_in Try.func6 (fun w0 W pin => ?_)
  refine aw_p 3 (
    .a 1 1 <| .nil _ _) ?_
  refine aw_sq 6 7 ?_
  refine aw_p 13 (
    .p (does_c (thinBegun_ok)) <| .a 2 1 <| .p (does_c (segBegun_ok)) <| .a 2 1 <| .nil _ _) ?_
  refine aw_fl 27 ?_
  refine aw_sk ?_
  refine then_normal ?_
  refine aw_p 15 (
    .a 1 1 <|
    .p (does_famL 0 3 (X := Z) (TH := 24) (TP := 29) (b := ⟨(xs.map i64v), 3, false, 1⟩) #[.tmp 19] #[22] [.slice (some ⟨0, 0, none⟩) xs.length 0] (lines_some xs hz Z hZ0 hZ) rfl (flats_map (fun _ => rfl) _) (by kernel_rfl) ⟨rfl, rfl⟩ (show RenL (sigL 0 3) (· < 1) [.slice (some ⟨0, 0, none⟩) xs.length 0] [.slice (some ⟨0, 0, none⟩) xs.length 0] from (.cons (.slice 0 _ _ _ _ (by decide)) .nil)) (by decide)) <|
    .a 1 4 <| .nil _ _) ?_
  refine aw_weak (freeze (kh := 3) (nm := nA) (X := Z) (o := true) (e := 24) (TH := 24) (TP := 29) (T := [(1, .int .i64 tol), (5, .slice (some ⟨3, 0, none⟩) Z.length 0)]) rfl ⟨by decide, by decide⟩ (by kernel_rfl) (by kernel_rfl) (by kernel_rfl) (fun j hj => ⟨true, Eq.trans (b := wr (writesOf [] (famW 24 29 3 nA Z)) (mkSt 1 [(0, .slice (some ⟨0, 0, none⟩) xs.length 0), (1, .int .i64 tol), (4, .bool false), (13, .bool true), (14, .bool false), (15, .bool false), (16, .bool true), (17, .bool false), (18, .bool false), (19, .slice (some ⟨0, 0, none⟩) xs.length 0)] [(0, ⟨(xs.map i64v), 3, false, 1⟩)]).H (nA j)) (by kernel_rfl) (famW_row (by decide) nA_ge (fun i j h => nA_inj h) hj)⟩)) ?_
  refine aw_p 31 (
    .a 1 4 <| .p (does_c (below_ok tol 20 (by decide) (by decide))) <| .a 1 4 <| .nil _ _) ?_
  refine aw_p 63 (
    .a 2 4 <|
    .p (does_famK 3 4 nA (X := Z) (Y := Y) (TH := 24) (TP := 29) (n := Z.length) #[.tmp 24, .tmp 25] #[36, 3] [.slice (some ⟨3, 0, none⟩) Z.length 0, .int .i64 (tol % 20)] (by have h := keep_ok Z (tol % 20) hc; rw [← hY] at h; exact h) rfl hYl ⟨24, false, by kernel_rfl⟩ (fun j _ => ⟨29, false, Eq.trans (b := (fam2 29 Z noB) (nA j)) (by kernel_rfl) (fam2_A _ _ _ _)⟩) (show RenL (sigK Z.length 3 4 nA) (· < 1 + Z.length) [.slice (some ⟨0, 0, none⟩) Z.length 0, .int .i64 (tol % 20)] [.slice (some ⟨3, 0, none⟩) Z.length 0, .int .i64 (tol % 20)] from (.cons (.slice 0 _ _ _ _ (by show 0 < 1 + _; omega)) (.cons (.flatB (by kernel_rfl)) .nil))) (by decide) (by kernel_rfl) (fun j => Eq.trans (b := (fam2 29 Z noB) (nB j)) (by kernel_rfl) (fam2_B _ _ _ _))) <|
    .a 5 5 <| .nil _ _) ?_
  refine aw_weak (after_keep (kh := 3) (kh2 := 4) (X := Z) (Y := Y) (TH := 24) (TP := 29) (T := [(1, .int .i64 (tol % 20)), (5, .slice (some ⟨3, 0, none⟩) Z.length 0), (6, .slice (some ⟨4, 0, none⟩) Z.length 0), (7, .int .i64 0)]) [] rfl ⟨by decide, by decide, by decide⟩ (by kernel_rfl) (by kernel_rfl) (by intro k; kernel_rfl)) ?_
  refine aw_sq 126 127 ?_
  refine aw_p 253 (
    .a 7 10 <| .p (does_b false ((show (((Z.length : Nat) : Int) != ((Z.length : Nat) : Int)) = false from by simp))) <| .a 3 10 <|
    .p (does_fam 4 nB #[.tmp 39] #[36] [.slice (some ⟨4, 0, none⟩) Z.length 0] ((by have h := check_ok Y (fun i => by obtain ⟨_, hoo, _, _⟩ := Sp.lns_ok hYc; by_cases hi : i < Y.length; exact Nat.le_trans (Sp.rowE_0 (hoo i hi)).2.1 (by decide); rw [List.getD_eq_getElem?_getD, List.getElem?_eq_none_iff.2 (by omega)]; simp) (by rw [hYl]; omega); rw [hYc, hYl] at h; exact h)) ⟨24, false, by kernel_rfl⟩ (fun j _ => ⟨29, false, Eq.trans (b := (fam2 29 Z (roB 29 Y)) (nB j)) (by kernel_rfl) (fam2_roB _ _ _ _)⟩) (show RenL (famS 4 nB) (· < 1 + Z.length) [.slice (some ⟨0, 0, none⟩) Z.length 0] [.slice (some ⟨4, 0, none⟩) Z.length 0] from (.cons (.slice 0 _ _ _ _ (by show 0 < 1 + _; omega)) .nil)) (hn := hYl.symm)) <|
    .a 2 10 <| .nil _ _) ?_
  refine aw_fl 507 ?_
  refine aw_sk ?_
  refine then_normal ?_
  refine aw_sq 254 255 ?_
  refine aw_p 509 (
    .a 3 10 <| .nil _ _) ?_
  refine aw_bl 0 1019 ?_
  refine aw_lp 2039 ?_
  refine al_wF [(1, .int .i64 (tol % 20)), (6, .slice (some ⟨4, 0, none⟩) Z.length 0), (43, .slice (some ⟨3, 0, none⟩) Z.length 0), (44, .int .i64 ((Z.length : Nat) : Int)), (45, .int .i64 ((0 : Nat) : Int))] [(3, ⟨(hds nA Z), 24, false, 1⟩), (4, ⟨(hds nB Y), 24, false, 1⟩)] (fam2 29 Z (roB 29 Y)) ⟨(hds_clN nA_ge _ _ _), (hds_clN nB_ge _ _ _), trivial⟩ (fam2_flat (roB_flat _ _)) ?_
  refine al_ind (fun i : Nat => (fun (u : Nat) => mkF 1 [(1, .int .i64 (tol % 20)), (6, .slice (some ⟨4, 0, none⟩) Z.length 0), (43, .slice (some ⟨3, 0, none⟩) Z.length 0), (44, .int .i64 ((Z.length : Nat) : Int)), (45, .int .i64 ((u : Nat) : Int))] [(3, ⟨(hds nA Z), 24, false, 1⟩), (4, ⟨(hds nB Y), 24, false, 1⟩)] (fam2 29 Z (roB 29 Y))) i) (fun i : Nat => (fun (u : Nat) => (u ≤ Z.length)) i) (fun i : Nat => (fun (u : Nat) => Z.length - u) i) (fun i hi1 ih1 => ?_) 0 (show (0 ≤ Z.length) from by omega)
  obtain ⟨u, hv1⟩ : ∃ z, z = i := ⟨i, rfl⟩; subst hv1
  have hi1' : (u ≤ Z.length) := hi1
  have hi : u ≤ Z.length := hi1'
  show AL _ _ _ (mkF 1 [(1, .int .i64 (tol % 20)), (6, .slice (some ⟨4, 0, none⟩) Z.length 0), (43, .slice (some ⟨3, 0, none⟩) Z.length 0), (44, .int .i64 ((Z.length : Nat) : Int)), (45, .int .i64 ((u : Nat) : Int))] [(3, ⟨(hds nA Z), 24, false, 1⟩), (4, ⟨(hds nB Y), 24, false, 1⟩)] (fam2 29 Z (roB 29 Y))) _
  refine al_round ?_
  refine aw_p 4079 (
    .a 1 10 <| .nil _ _) ?_
  refine aw_sq 8158 8159 ?_
  refine aw_cd 16316 16317 (decide (((u : Nat) : Int) < ((Z.length : Nat) : Int))) (fun h1 => ?_) (fun h1 => ?_)
  · have h1p : ((((u : Nat) : Int) < ((Z.length : Nat) : Int))) := by first | (simpa using h1) | (have h1q := h1; simp at h1q; omega) | (have h1q := bx1 h1; simp at h1q; omega)
    have hux : u < Z.length := (by omega); obtain ⟨x2, x200, y2, y200, hT⟩ := hYs u hux; have hyx := hT.len; have fx := hXf u; have fy := hYf u
    refine aw_sk ?_
    refine then_normal ?_
    refine aw_sq 16318 16319 ?_
    refine aw_bl 1 32637 ?_
    refine aw_p 65275 (
      .a 1 10 <| .p (does_indexSlice (t := 36) (x := .tmp 43) (y := .tmp 45) (k := 3) (off := 0) (n := Z.length) (c := 0) (z := 1) (kd := .i64) (j := ((u : Nat) : Int)) (by kernel_rfl) (by kernel_rfl) (by kernel_rfl) (by kernel_rfl) (by kernel_rfl) (by omega) (by omega)) <|
      .p (does_load (t := 24) (x := .tmp 48) (k := 3) (off := (0 + (((u : Nat) : Int)).toNat * 1)) (b := ⟨(hds nA Z), 24, false, 1⟩) (v := .slice (some ⟨(nA u), 0, none⟩) ((Z.getD u []).length) 0) (by kernel_rfl) (by kernel_rfl) (by kernel_rfl) (by rw [show (0 + (((u : Nat) : Int)).toNat * 1) = u from (by omega)]; exact ldV_hds (by kernel_rfl) (by kernel_rfl) (by omega))) <|
      .a 2 10 <| .nil _ _) ?_
    refine aw_alias 8 (nA u) 9 ((Z.getD u []).length) ⟨((Z.getD u []).flatMap ptc), 29, false, 2⟩ [(1, .int .i64 (tol % 20)), (6, .slice (some ⟨4, 0, none⟩) Z.length 0), (8, .int .i64 ((u : Nat) : Int)), (43, .slice (some ⟨3, 0, none⟩) Z.length 0), (44, .int .i64 ((Z.length : Nat) : Int)), (45, .int .i64 ((u : Nat) : Int)), (46, .bool (decide (((u : Nat) : Int) < ((Z.length : Nat) : Int))))] [(3, ⟨(hds nA Z), 24, false, 1⟩), (4, ⟨(hds nB Y), 24, false, 1⟩)] (fam2 29 Z (roB 29 Y)) (Eq.trans (b := (fam2 29 Z (roB 29 Y)) (nA u)) (by kernel_rfl) (fam2_A _ _ _ _)) (flats_pair _) ⟨(hds_clN nA_ge _ _ _), (hds_clN nB_ge _ _ _), trivial⟩ (fam2_flat (roB_flat _ _)) ?_
    refine aw_p 130551 (
      .a 2 10 <| .p (does_indexSlice (t := 36) (x := .tmp 50) (y := .tmp 51) (k := 4) (off := 0) (n := Z.length) (c := 0) (z := 1) (kd := .i64) (j := ((u : Nat) : Int)) (by kernel_rfl) (by kernel_rfl) (by kernel_rfl) (by kernel_rfl) (by kernel_rfl) (by omega) (by omega)) <|
      .p (does_load (t := 24) (x := .tmp 52) (k := 4) (off := (0 + (((u : Nat) : Int)).toNat * 1)) (b := ⟨(hds nB Y), 24, false, 1⟩) (v := .slice (some ⟨(nB u), 0, none⟩) ((Y.getD u []).length) 0) (by kernel_rfl) (by kernel_rfl) (by kernel_rfl) (by rw [show (0 + (((u : Nat) : Int)).toNat * 1) = u from (by omega)]; exact ldV_hds (by kernel_rfl) (by kernel_rfl) (by omega))) <|
      .a 1 10 <| .nil _ _) ?_
    refine aw_alias 9 (nB u) 10 ((Y.getD u []).length) ⟨((Y.getD u []).flatMap ptc), 29, false, 2⟩ [(1, .int .i64 (tol % 20)), (6, .slice (some ⟨4, 0, none⟩) Z.length 0), (8, .int .i64 ((u : Nat) : Int)), (9, .slice (some ⟨8, 0, none⟩) ((Z.getD u []).length) 0), (43, .slice (some ⟨3, 0, none⟩) Z.length 0), (44, .int .i64 ((Z.length : Nat) : Int)), (45, .int .i64 ((u : Nat) : Int)), (46, .bool (decide (((u : Nat) : Int) < ((Z.length : Nat) : Int))))] [(3, ⟨(hds nA Z), 24, false, 1⟩), (4, ⟨(hds nB Y), 24, false, 1⟩), (8, ⟨((Z.getD u []).flatMap ptc), 29, false, 2⟩)] (fam2 29 Z (roB 29 Y)) (Eq.trans (b := (fam2 29 Z (roB 29 Y)) (nB u)) (by kernel_rfl) (fam2_roB _ _ _ _)) (flats_pair _) ⟨(hds_clN nA_ge _ _ _), (hds_clN nB_ge _ _ _), (pts_cl _ _ _), trivial⟩ (fam2_flat (roB_flat _ _)) ?_
    refine aw_sq 261102 261103 ?_
    refine aw_d 522205 (
      .a 2 10 <| .p (does_b false ((show (decide ((((Y.getD u []).length : Nat) : Int) < 2)) = false from decide_eq_false (by omega)))) <| .a 2 10 <|
      .p (does_indexSlice (t := 24) (x := .tmp 58) (y := .const (.int .i64 0)) (k := 9) (off := 0) (n := ((Y.getD u []).length)) (c := 0) (z := 2) (kd := .i64) (j := 0) (by kernel_rfl) (by kernel_rfl) (by kernel_rfl) (by kernel_rfl) (by kernel_rfl) (by omega) (by omega)) <|
      .p (does_load (t := 29) (x := .tmp 59) (k := 9) (off := 0) (b := ⟨((Y.getD u []).flatMap ptc), 29, false, 2⟩) (v := .agg #[.int .i64 (((Y.getD u []).getD 0 (0, 0)).1), .int .i64 (((Y.getD u []).getD 0 (0, 0)).2)]) (by kernel_rfl) (by kernel_rfl) (by kernel_rfl) (ldV_pair (j := 0) (by kernel_rfl) (by kernel_rfl) (by omega) (by omega))) <|
      .a 1 10 <| .p (does_indexSlice (t := 24) (x := .tmp 61) (y := .const (.int .i64 0)) (k := 8) (off := 0) (n := ((Z.getD u []).length)) (c := 0) (z := 2) (kd := .i64) (j := 0) (by kernel_rfl) (by kernel_rfl) (by kernel_rfl) (by kernel_rfl) (by kernel_rfl) (by omega) (by omega)) <|
      .p (does_load (t := 29) (x := .tmp 62) (k := 8) (off := 0) (b := ⟨((Z.getD u []).flatMap ptc), 29, false, 2⟩) (v := .agg #[.int .i64 (((Z.getD u []).getD 0 (0, 0)).1), .int .i64 (((Z.getD u []).getD 0 (0, 0)).2)]) (by kernel_rfl) (by kernel_rfl) (by kernel_rfl) (ldV_pair (j := 0) (by kernel_rfl) (by kernel_rfl) (by omega) (by omega))) <|
      .p (does_e false ((show (!(((((Y.getD u []).getD 0 (0, 0)).1) == (((Z.getD u []).getD 0 (0, 0)).1)) && (((((Y.getD u []).getD 0 (0, 0)).2) == (((Z.getD u []).getD 0 (0, 0)).2)) && true))) = false from (by rw [show (Y.getD u []).getD 0 (0, 0) = (Z.getD u []).getD 0 (0, 0) from hT.first]; simp)))) <|
      .a 5 10 <| .p (does_i (((Y.getD u []).length - 1 : Nat) : Int) ((show (IntKind.wrap .i64 ((((Y.getD u []).length : Nat) : Int) - 1)) = (((Y.getD u []).length - 1 : Nat) : Int) from ((wrap_i64 (by omega) (by omega)).trans (by omega)))) .i64) <|
      .p (does_indexSlice (t := 24) (x := .tmp 67) (y := .tmp 70) (k := 9) (off := 0) (n := ((Y.getD u []).length)) (c := 0) (z := 2) (kd := .i64) (j := (((Y.getD u []).length - 1 : Nat) : Int)) (by kernel_rfl) (by kernel_rfl) (by kernel_rfl) (by kernel_rfl) (by kernel_rfl) (by omega) (by omega)) <|
      .p (does_load (t := 29) (x := .tmp 71) (k := 9) (off := (0 + ((((Y.getD u []).length - 1 : Nat) : Int)).toNat * 2)) (b := ⟨((Y.getD u []).flatMap ptc), 29, false, 2⟩) (v := .agg #[.int .i64 (((Y.getD u []).getD ((Y.getD u []).length - 1) (0, 0)).1), .int .i64 (((Y.getD u []).getD ((Y.getD u []).length - 1) (0, 0)).2)]) (by kernel_rfl) (by kernel_rfl) (by kernel_rfl) (ldV_pair (j := ((Y.getD u []).length - 1)) (by kernel_rfl) (by kernel_rfl) (by omega) (by omega))) <|
      .a 3 10 <| .p (does_i (((Z.getD u []).length - 1 : Nat) : Int) ((show (IntKind.wrap .i64 ((((Z.getD u []).length : Nat) : Int) - 1)) = (((Z.getD u []).length - 1 : Nat) : Int) from ((wrap_i64 (by omega) (by omega)).trans (by omega)))) .i64) <|
      .p (does_indexSlice (t := 24) (x := .tmp 73) (y := .tmp 76) (k := 8) (off := 0) (n := ((Z.getD u []).length)) (c := 0) (z := 2) (kd := .i64) (j := (((Z.getD u []).length - 1 : Nat) : Int)) (by kernel_rfl) (by kernel_rfl) (by kernel_rfl) (by kernel_rfl) (by kernel_rfl) (by omega) (by omega)) <|
      .p (does_load (t := 29) (x := .tmp 77) (k := 8) (off := (0 + ((((Z.getD u []).length - 1 : Nat) : Int)).toNat * 2)) (b := ⟨((Z.getD u []).flatMap ptc), 29, false, 2⟩) (v := .agg #[.int .i64 (((Z.getD u []).getD ((Z.getD u []).length - 1) (0, 0)).1), .int .i64 (((Z.getD u []).getD ((Z.getD u []).length - 1) (0, 0)).2)]) (by kernel_rfl) (by kernel_rfl) (by kernel_rfl) (ldV_pair (j := ((Z.getD u []).length - 1)) (by kernel_rfl) (by kernel_rfl) (by omega) (by omega))) <|
      .p (does_e false ((show (!(((((Y.getD u []).getD ((Y.getD u []).length - 1) (0, 0)).1) == (((Z.getD u []).getD ((Z.getD u []).length - 1) (0, 0)).1)) && (((((Y.getD u []).getD ((Y.getD u []).length - 1) (0, 0)).2) == (((Z.getD u []).getD ((Z.getD u []).length - 1) (0, 0)).2)) && true))) = false from (by rw [show (Y.getD u []).getD ((Y.getD u []).length - 1) (0, 0) = (Z.getD u []).getD ((Z.getD u []).length - 1) (0, 0) from hT.last]; simp)))) <|
      .a 6 10 <| .p (does_b false ((show (decide ((((Y.getD u []).length : Nat) : Int) > (((Z.getD u []).length : Nat) : Int))) = false from decide_eq_false (by omega)))) <| .a 1 10 <| .nil _ _) ?_
    refine aw_fl 1044411 ?_
    refine aw_sk ?_
    refine then_normal ?_
    refine aw_p 522207 (
      .a 3 10 <| .nil _ _) ?_
    refine aw_bl 2 1044415 ?_
    refine aw_lp 2088831 ?_
    refine al_wF [(1, .int .i64 (tol % 20)), (6, .slice (some ⟨4, 0, none⟩) Z.length 0), (8, .int .i64 ((u : Nat) : Int)), (9, .slice (some ⟨8, 0, none⟩) ((Z.getD u []).length) 0), (10, .slice (some ⟨9, 0, none⟩) ((Y.getD u []).length) 0), (43, .slice (some ⟨3, 0, none⟩) Z.length 0), (44, .int .i64 ((Z.length : Nat) : Int)), (45, .int .i64 ((u : Nat) : Int)), (88, .slice (some ⟨8, 0, none⟩) ((Z.getD u []).length) 0), (89, .int .i64 (((Z.getD u []).length : Nat) : Int)), (90, .int .i64 ((0 : Nat) : Int))] [(3, ⟨(hds nA Z), 24, false, 1⟩), (4, ⟨(hds nB Y), 24, false, 1⟩), (8, ⟨((Z.getD u []).flatMap ptc), 29, false, 2⟩), (9, ⟨((Y.getD u []).flatMap ptc), 29, false, 2⟩)] (fam2 29 Z (roB 29 Y)) ⟨(hds_clN nA_ge _ _ _), (hds_clN nB_ge _ _ _), (pts_cl _ _ _), (pts_cl _ _ _), trivial⟩ (fam2_flat (roB_flat _ _)) ?_
    refine al_ind (fun i : Nat => (fun (e : Nat) => mkF 1 [(1, .int .i64 (tol % 20)), (6, .slice (some ⟨4, 0, none⟩) Z.length 0), (8, .int .i64 ((u : Nat) : Int)), (9, .slice (some ⟨8, 0, none⟩) ((Z.getD u []).length) 0), (10, .slice (some ⟨9, 0, none⟩) ((Y.getD u []).length) 0), (43, .slice (some ⟨3, 0, none⟩) Z.length 0), (44, .int .i64 ((Z.length : Nat) : Int)), (45, .int .i64 ((u : Nat) : Int)), (88, .slice (some ⟨8, 0, none⟩) ((Z.getD u []).length) 0), (89, .int .i64 (((Z.getD u []).length : Nat) : Int)), (90, .int .i64 ((e : Nat) : Int))] [(3, ⟨(hds nA Z), 24, false, 1⟩), (4, ⟨(hds nB Y), 24, false, 1⟩), (8, ⟨((Z.getD u []).flatMap ptc), 29, false, 2⟩), (9, ⟨((Y.getD u []).flatMap ptc), 29, false, 2⟩)] (fam2 29 Z (roB 29 Y))) i) (fun i : Nat => (fun (e : Nat) => (e ≤ (Z.getD u []).length)) i) (fun i : Nat => (fun (e : Nat) => (Z.getD u []).length - e) i) (fun i hi2 ih2 => ?_) 0 (show (0 ≤ (Z.getD u []).length) from by omega)
    obtain ⟨e, hv2⟩ : ∃ z, z = i := ⟨i, rfl⟩; subst hv2
    have hi2' : (e ≤ (Z.getD u []).length) := hi2
    have he : e ≤ (Z.getD u []).length := hi2'
    show AL _ _ _ (mkF 1 [(1, .int .i64 (tol % 20)), (6, .slice (some ⟨4, 0, none⟩) Z.length 0), (8, .int .i64 ((u : Nat) : Int)), (9, .slice (some ⟨8, 0, none⟩) ((Z.getD u []).length) 0), (10, .slice (some ⟨9, 0, none⟩) ((Y.getD u []).length) 0), (43, .slice (some ⟨3, 0, none⟩) Z.length 0), (44, .int .i64 ((Z.length : Nat) : Int)), (45, .int .i64 ((u : Nat) : Int)), (88, .slice (some ⟨8, 0, none⟩) ((Z.getD u []).length) 0), (89, .int .i64 (((Z.getD u []).length : Nat) : Int)), (90, .int .i64 ((e : Nat) : Int))] [(3, ⟨(hds nA Z), 24, false, 1⟩), (4, ⟨(hds nB Y), 24, false, 1⟩), (8, ⟨((Z.getD u []).flatMap ptc), 29, false, 2⟩), (9, ⟨((Y.getD u []).flatMap ptc), 29, false, 2⟩)] (fam2 29 Z (roB 29 Y))) _
    refine al_round ?_
    refine aw_p 4177663 (
      .a 1 10 <| .nil _ _) ?_
    refine aw_sq 8355326 8355327 ?_
    refine aw_cd 16710652 16710653 (decide (((e : Nat) : Int) < (((Z.getD u []).length : Nat) : Int))) (fun h2 => ?_) (fun h2 => ?_)
    · have h2p : ((((e : Nat) : Int) < (((Z.getD u []).length : Nat) : Int))) := by first | (simpa using h2) | (have h2q := h2; simp at h2q; omega) | (have h2q := bx1 h2; simp at h2q; omega)
      have hel : e < (Z.getD u []).length := (by omega); obtain ⟨k, hk, hw⟩ := hT.nl t0.1 hel; have fe := fx e
      refine aw_sk ?_
      refine then_normal ?_
      refine aw_sq 16710654 16710655 ?_
      refine aw_bl 3 33421309 ?_
      refine aw_p 66842619 (
        .p (does_indexSlice (t := 24) (x := .tmp 88) (y := .tmp 90) (k := 8) (off := 0) (n := ((Z.getD u []).length)) (c := 0) (z := 2) (kd := .i64) (j := ((e : Nat) : Int)) (by kernel_rfl) (by kernel_rfl) (by kernel_rfl) (by kernel_rfl) (by kernel_rfl) (by omega) (by omega)) <|
        .p (does_load (t := 29) (x := .tmp 92) (k := 8) (off := (0 + (((e : Nat) : Int)).toNat * 2)) (b := ⟨((Z.getD u []).flatMap ptc), 29, false, 2⟩) (v := .agg #[.int .i64 (((Z.getD u []).getD e (0, 0)).1), .int .i64 (((Z.getD u []).getD e (0, 0)).2)]) (by kernel_rfl) (by kernel_rfl) (by kernel_rfl) (ldV_pair (j := e) (by kernel_rfl) (by kernel_rfl) (by omega) (by omega))) <|
        .a 2 10 <| .nil _ _) ?_
      refine aw_p 133685239 (
        .a 3 11 <|
        .p (does_ro [9] #[.tmp 94, .tmp 95, .tmp 96] #[24, 29, 3] [.slice (some ⟨9, 0, none⟩) ((Y.getD u []).length) 0, .agg #[.int .i64 (((Z.getD u []).getD e (0, 0)).1), .int .i64 (((Z.getD u []).getD e (0, 0)).2)], .int .i64 (tol % 20)] [(29, false)] (nearl_ro (Y.getD u []) (((Z.getD u []).getD e (0, 0)).1) (((Z.getD u []).getD e (0, 0)).2) (tol % 20) k fy (by omega) hk hw (by omega) (by omega) (by omega) (by omega)) (.cons (.slice _ _ _ _ _ (by decide)) (.cons (.flatB (by kernel_rfl)) (.cons (.flatB (by kernel_rfl)) .nil))) ⟨⟨rfl, flats_pair _⟩, trivial⟩) <|
        .a 1 11 <| .nil _ _) ?_
      refine aw_fl 267370479 ?_
      refine aw_sk ?_
      refine block_normal ?_
      refine then_normal ?_
      refine aw_p1 (
        .p (does_i (((e : Nat) : Int) + 1) (wrap_i64 (by omega) (by omega)) .i64) <| .a 1 11 <| .nil _ _) ?_
      refine then_normal ?_
      refine al_wF [(1, .int .i64 (tol % 20)), (6, .slice (some ⟨4, 0, none⟩) Z.length 0), (8, .int .i64 ((u : Nat) : Int)), (9, .slice (some ⟨8, 0, none⟩) ((Z.getD u []).length) 0), (10, .slice (some ⟨9, 0, none⟩) ((Y.getD u []).length) 0), (43, .slice (some ⟨3, 0, none⟩) Z.length 0), (44, .int .i64 ((Z.length : Nat) : Int)), (45, .int .i64 ((u : Nat) : Int)), (88, .slice (some ⟨8, 0, none⟩) ((Z.getD u []).length) 0), (89, .int .i64 (((Z.getD u []).length : Nat) : Int)), (90, .int .i64 (((e + 1) : Nat) : Int))] [(3, ⟨(hds nA Z), 24, false, 1⟩), (4, ⟨(hds nB Y), 24, false, 1⟩), (8, ⟨((Z.getD u []).flatMap ptc), 29, false, 2⟩), (9, ⟨((Y.getD u []).flatMap ptc), 29, false, 2⟩)] (fam2 29 Z (roB 29 Y)) ⟨(hds_clN nA_ge _ _ _), (hds_clN nB_ge _ _ _), (pts_cl _ _ _), (pts_cl _ _ _), trivial⟩ (fam2_flat (roB_flat _ _)) ?_
      exact ih2 (e + 1) (show ((e + 1) ≤ (Z.getD u []).length) from by omega) (show (Z.getD u []).length - (e + 1) < (Z.getD u []).length - e from by omega)
    · have h2p : ¬ ((((e : Nat) : Int) < (((Z.getD u []).length : Nat) : Int))) := by first | (simpa using h2) | (have h2q := h2; simp at h2q; omega) | (have h2q := bx2 h2; simp at h2q; omega)
      refine aw_ex 2 ?_
      refine then_exit ?_
      refine then_exit ?_
      refine block_exit ?_
      refine block_normal ?_
      refine then_normal ?_
      refine aw_p1 (
        .p (does_i (((u : Nat) : Int) + 1) (wrap_i64 (by omega) (by omega)) .i64) <| .a 1 10 <| .nil _ _) ?_
      refine then_normal ?_
      refine al_wF [(1, .int .i64 (tol % 20)), (6, .slice (some ⟨4, 0, none⟩) Z.length 0), (43, .slice (some ⟨3, 0, none⟩) Z.length 0), (44, .int .i64 ((Z.length : Nat) : Int)), (45, .int .i64 (((u + 1) : Nat) : Int))] [(3, ⟨(hds nA Z), 24, false, 1⟩), (4, ⟨(hds nB Y), 24, false, 1⟩)] (fam2 29 Z (roB 29 Y)) ⟨(hds_clN nA_ge _ _ _), (hds_clN nB_ge _ _ _), trivial⟩ (fam2_flat (roB_flat _ _)) ?_
      exact ih1 (u + 1) (show ((u + 1) ≤ Z.length) from by omega) (show Z.length - (u + 1) < Z.length - u from by omega)
  · have h1p : ¬ ((((u : Nat) : Int) < ((Z.length : Nat) : Int))) := by first | (simpa using h1) | (have h1q := h1; simp at h1q; omega) | (have h1q := bx2 h1; simp at h1q; omega)
    skip
    refine aw_ex 0 ?_
    refine then_exit ?_
    refine then_exit ?_
    refine block_exit ?_
    refine then_normal ?_
    refine aw_p 511 (
      .a 1 10 <| .nil _ _) ?_
    refine aw_rt ?_
    exact en_ret [.bool true] (by kernel_rfl)
theorem thinSafe_ok (xs : List Int) (hz : xs.length ≤ 9223372036854775807) (tol : Int) : AC Try.prog 6 1 [.slice (some ⟨0, 0, none⟩) xs.length 0, .int .i64 tol] [(0, ⟨(xs.map i64v), 3, false, 1⟩)] (.bool true) [] := by
  by_cases h : Sp.lnz xs 0 [] = []
  · exact thinSafe_nil xs tol hz h
  · exact thinSafe_some xs tol hz _ rfl h
end Go.Proofs.Ytadifmimefmcnaa.Am
