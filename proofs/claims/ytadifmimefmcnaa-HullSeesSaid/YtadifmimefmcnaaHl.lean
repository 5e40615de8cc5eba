/-
  The walks of what a hull contains, by triangles.
-/
import Derived.Test.YtadifmimefmcnaaProg
import Derived.Test.YtadifmimefmcnaaAm16
import Derived.Test.YtadifmimefmcnaaPt3
import Derived.Test.YtadifmimefmcnaaHu13
import Derived.Test.YtadifmimefmcnaaAm25
namespace Go.Proofs.Ytadifmimefmcnaa.Am
open Go Go.Proofs
set_option maxRecDepth 100000
set_option maxHeartbeats 4000000
set_option linter.unusedVariables false
set_option linter.unusedSimpArgs false

theorem hulledn (x y : Int) :
    AC Try.prog 41 0 ([.slice none 0 0, .agg #[.int .i64 x, .int .i64 y]]) [] (.bool false) [] := by
  refine ac_in Try.func41 (fun w0 W pin => ?_)
  refine aw_p 3 (
    .a 2 1 <| .nil _ _) ?_
  refine aw_p 7 (
    .a 1 2 <| .p (does_c (rvalid_ok x y)) <| .a 1 2 <| .nil _ _) ?_
  refine aw_sq 14 15 ?_
  refine aw_p 29 (
    .a 3 2 <| .nil _ _) ?_
  refine aw_tr 58 ?_
  refine aw_d 117 (
    .a 17 2 <| .nil _ _) ?_
  refine aw_rt ?_
  refine then_ret ?_
  exact en_ret [.bool false] (by kernel_rfl)

theorem hulledw (qs h : List (Int × Int)) (hh : Sp.hullF qs = h) (hhl : 1 ≤ h.length ∧ h.length ≤ 17592186043904) (hfh : Sp.Few 1048576 h) (x y : Int) :
    AC Try.prog 41 1 ([.slice (some ⟨0, 0, none⟩) h.length 0, .agg #[.int .i64 x, .int .i64 y]]) [(0, ⟨(h.flatMap ptc), 29, true, 2⟩)] (.bool (Sp.hasH h (Sp.lim 1048576 x) (Sp.lim 1048576 y))) [(0, ⟨(h.flatMap ptc), 29, true, 2⟩)] := by
  have qx := Sp.lim_bd (m := 1048576) (by decide) x; have qy := Sp.lim_bd (m := 1048576) (by decide) y
  refine ac_in Try.func41 (fun w0 W pin => ?_)
  refine aw_p 3 (
    .a 2 1 <| .nil _ _) ?_
  refine aw_p 7 (
    .a 1 2 <| .p (does_c (rvalid_ok x y)) <| .a 1 2 <| .nil _ _) ?_
  refine aw_sq 14 15 ?_
  refine aw_p 29 (
    .a 3 2 <| .nil _ _) ?_
  refine aw_cd 58 59 (decide (((h.length : Nat) : Int) < 3)) (fun h1 => ?_) (fun h1 => ?_)
  · have h1p : ((((h.length : Nat) : Int) < 3)) := by first | (simpa using h1) | (have h1q := h1; simp at h1q; omega) | (have h1q := bx1 h1; simp at h1q; omega)
    have f0 := hfh 0; have fl := hfh (h.length - 1)
    refine aw_d 117 (
      .a 2 2 <| .p (does_b true ((show (decide (((h.length : Nat) : Int) > 0)) = true from decide_eq_true (by omega)))) <| .a 2 2 <|
      .p (does_indexSlice (t := 24) (x := .tmp 15) (y := .const (.int .i64 0)) (k := 0) (off := 0) (n := h.length) (c := 0) (z := 2) (kd := .i64) (j := 0) (by kernel_rfl) (by kernel_rfl) (by kernel_rfl) (by kernel_rfl) (by kernel_rfl) (by omega) (by omega)) <|
      .p (does_load (t := 29) (x := .tmp 16) (k := 0) (off := 0) (b := ⟨(h.flatMap ptc), 29, true, 2⟩) (v := .agg #[.int .i64 ((h.getD 0 (0, 0)).1), .int .i64 ((h.getD 0 (0, 0)).2)]) (by kernel_rfl) (by kernel_rfl) (by kernel_rfl) (ldV_pair (j := 0) (by kernel_rfl) (by kernel_rfl) (by omega) (by omega))) <|
      .a 3 2 <| .p (does_i ((h.length - 1 : Nat) : Int) ((show (IntKind.wrap .i64 (((h.length : Nat) : Int) - 1)) = ((h.length - 1 : Nat) : Int) from ((wrap_i64 (by omega) (by omega)).trans (by omega)))) .i64) <|
      .p (does_indexSlice (t := 24) (x := .tmp 18) (y := .tmp 21) (k := 0) (off := 0) (n := h.length) (c := 0) (z := 2) (kd := .i64) (j := ((h.length - 1 : Nat) : Int)) (by kernel_rfl) (by kernel_rfl) (by kernel_rfl) (by kernel_rfl) (by kernel_rfl) (by omega) (by omega)) <|
      .p (does_load (t := 29) (x := .tmp 22) (k := 0) (off := (0 + (((h.length - 1 : Nat) : Int)).toNat * 2)) (b := ⟨(h.flatMap ptc), 29, true, 2⟩) (v := .agg #[.int .i64 ((h.getD (h.length - 1) (0, 0)).1), .int .i64 ((h.getD (h.length - 1) (0, 0)).2)]) (by kernel_rfl) (by kernel_rfl) (by kernel_rfl) (ldV_pair (j := (h.length - 1)) (by kernel_rfl) (by kernel_rfl) (by omega) (by omega))) <|
      .a 1 2 <|
      .p (does_c (rlies_in ((h.getD 0 (0, 0)).1) ((h.getD 0 (0, 0)).2) ((h.getD (h.length - 1) (0, 0)).1) ((h.getD (h.length - 1) (0, 0)).2) (Sp.lim 1048576 x) (Sp.lim 1048576 y) (by omega) (by omega) (by omega) (by omega) (by omega) (by omega) (by omega) (by omega) (by omega) (by omega) (by omega) (by omega))) <|
      .a 2 2 <| .nil _ _) ?_
    refine aw_rt ?_
    refine then_ret ?_
    exact en_ret [.bool (Sp.onb ((h.getD 0 (0, 0)).1) ((h.getD 0 (0, 0)).2) ((h.getD (h.length - 1) (0, 0)).1) ((h.getD (h.length - 1) (0, 0)).2) (Sp.lim 1048576 x) (Sp.lim 1048576 y))] (show (.bool (Sp.onb ((h.getD 0 (0, 0)).1) ((h.getD 0 (0, 0)).2) ((h.getD (h.length - 1) (0, 0)).1) ((h.getD (h.length - 1) (0, 0)).2) (Sp.lim 1048576 x) (Sp.lim 1048576 y)) : Value) = (.bool (Sp.hasH h (Sp.lim 1048576 x) (Sp.lim 1048576 y))) from (congrArg Value.bool (show (Sp.onb ((h.getD 0 (0, 0)).1) ((h.getD 0 (0, 0)).2) ((h.getD (h.length - 1) (0, 0)).1) ((h.getD (h.length - 1) (0, 0)).2) (Sp.lim 1048576 x) (Sp.lim 1048576 y)) = (Sp.hasH h (Sp.lim 1048576 x) (Sp.lim 1048576 y)) from by (first | exact Sp.has_short (by omega) (by omega) | exact (Sp.has_short (by omega) (by omega)).symm | exact (Sp.fan_has hh hi.1 hul (Sp.fan_t (by assumption) (by assumption) (by assumption))).symm | exact (Sp.fan_end hnf h3 hge).symm))))
  · have h1p : ¬ ((((h.length : Nat) : Int) < 3)) := by first | (simpa using h1) | (have h1q := h1; simp at h1q; omega) | (have h1q := bx2 h1; simp at h1q; omega)
    have h3 : 2 < h.length := by omega
    refine aw_sk ?_
    refine then_normal ?_
    refine aw_sq 30 31 ?_
    refine aw_p 61 (
      .a 1 2 <| .nil _ _) ?_
    refine aw_bl 0 123 ?_
    refine aw_lp 247 ?_
    refine al_w [(0, .slice (some ⟨0, 0, none⟩) h.length 0), (3, .pointer (some ⟨1, 0, none⟩)), (4, .bool false), (5, .int .i64 ((2 : Nat) : Int))] [(0, ⟨(h.flatMap ptc), 29, true, 2⟩), (1, ⟨[.int .i64 (Sp.lim 1048576 x), .int .i64 (Sp.lim 1048576 y)], 29, true, 2⟩)] ?_ (hc := (by simp [closedB, valsB, valB, List.all_eq_true, List.mem_flatMap, List.mem_range, List.mem_map, i64v, ptc, flat1]; try (intros; simp [valsB, valB, flat1]); try decide))
    refine al_ind (fun i : Nat => (fun (u : Nat) => mkSt 1 [(0, .slice (some ⟨0, 0, none⟩) h.length 0), (3, .pointer (some ⟨1, 0, none⟩)), (4, .bool false), (5, .int .i64 ((u : Nat) : Int))] [(0, ⟨(h.flatMap ptc), 29, true, 2⟩), (1, ⟨[.int .i64 (Sp.lim 1048576 x), .int .i64 (Sp.lim 1048576 y)], 29, true, 2⟩)]) i) (fun i : Nat => (fun (u : Nat) => (2 ≤ u ∧ u ≤ h.length) ∧ (∀ j, 2 ≤ j → j < u → ¬ Sp.Fan h (Sp.lim 1048576 x, Sp.lim 1048576 y) j)) i) (fun i : Nat => (fun (u : Nat) => h.length - u) i) (fun i hi1 ih1 => ?_) 2 (show (2 ≤ 2 ∧ 2 ≤ h.length) ∧ (∀ j, 2 ≤ j → j < 2 → ¬ Sp.Fan h (Sp.lim 1048576 x, Sp.lim 1048576 y) j) from ⟨by omega, by exact fun j a b => by omega⟩)
    obtain ⟨u, hv1⟩ : ∃ z, z = i := ⟨i, rfl⟩; subst hv1
    have hi1' : (2 ≤ u ∧ u ≤ h.length) ∧ (∀ j, 2 ≤ j → j < u → ¬ Sp.Fan h (Sp.lim 1048576 x, Sp.lim 1048576 y) j) := hi1
    obtain ⟨hi, hnf⟩ := hi1'
    show AL _ _ _ (mkSt 1 [(0, .slice (some ⟨0, 0, none⟩) h.length 0), (3, .pointer (some ⟨1, 0, none⟩)), (4, .bool false), (5, .int .i64 ((u : Nat) : Int))] [(0, ⟨(h.flatMap ptc), 29, true, 2⟩), (1, ⟨[.int .i64 (Sp.lim 1048576 x), .int .i64 (Sp.lim 1048576 y)], 29, true, 2⟩)]) _
    have f0 := hfh 0; have fu := hfh u; have fp := hfh (u - 1)
    refine al_round ?_
    refine aw_sq 494 495 ?_
    refine aw_p 989 (
      .a 4 2 <| .nil _ _) ?_
    refine aw_cd 1978 1979 (decide (((u : Nat) : Int) < ((h.length : Nat) : Int))) (fun h2 => ?_) (fun h2 => ?_)
    · have h2p : ((((u : Nat) : Int) < ((h.length : Nat) : Int))) := by first | (simpa using h2) | (have h2q := h2; simp at h2q; omega) | (have h2q := bx1 h2; simp at h2q; omega)
      have hul : u < h.length := by omega
      refine aw_sk ?_
      refine then_normal ?_
      refine aw_sq 990 991 ?_
      refine aw_bl 1 1981 ?_
      rcases Bool.eq_false_or_eq_true (decide ((Sp.crs ((h.getD 0 (0, 0)).1) ((h.getD 0 (0, 0)).2) ((h.getD (u - 1) (0, 0)).1) ((h.getD (u - 1) (0, 0)).2) (Sp.lim 1048576 x) (Sp.lim 1048576 y)) ≥ 0)) with h3 | h3
      · have h3p : (((Sp.crs ((h.getD 0 (0, 0)).1) ((h.getD 0 (0, 0)).2) ((h.getD (u - 1) (0, 0)).1) ((h.getD (u - 1) (0, 0)).2) (Sp.lim 1048576 x) (Sp.lim 1048576 y)) ≥ 0)) := by first | (simpa using h3) | (have h3q := h3; simp at h3q; omega) | (have h3q := bx1 h3; simp at h3q; omega)
        rcases Bool.eq_false_or_eq_true (decide ((Sp.crs ((h.getD (u - 1) (0, 0)).1) ((h.getD (u - 1) (0, 0)).2) ((h.getD u (0, 0)).1) ((h.getD u (0, 0)).2) (Sp.lim 1048576 x) (Sp.lim 1048576 y)) ≥ 0)) with h4 | h4
        · have h4p : (((Sp.crs ((h.getD (u - 1) (0, 0)).1) ((h.getD (u - 1) (0, 0)).2) ((h.getD u (0, 0)).1) ((h.getD u (0, 0)).2) (Sp.lim 1048576 x) (Sp.lim 1048576 y)) ≥ 0)) := by first | (simpa using h4) | (have h4q := h4; simp at h4q; omega) | (have h4q := bx1 h4; simp at h4q; omega)
          refine aw_d 3963 (
            .a 1 2 <| .p (does_indexSlice (t := 24) (x := .tmp 33) (y := .const (.int .i64 0)) (k := 0) (off := 0) (n := h.length) (c := 0) (z := 2) (kd := .i64) (j := 0) (by kernel_rfl) (by kernel_rfl) (by kernel_rfl) (by kernel_rfl) (by kernel_rfl) (by omega) (by omega)) <|
            .p (does_load (t := 29) (x := .tmp 34) (k := 0) (off := 0) (b := ⟨(h.flatMap ptc), 29, true, 2⟩) (v := .agg #[.int .i64 ((h.getD 0 (0, 0)).1), .int .i64 ((h.getD 0 (0, 0)).2)]) (by kernel_rfl) (by kernel_rfl) (by kernel_rfl) (ldV_pair (j := 0) (by kernel_rfl) (by kernel_rfl) (by omega) (by omega))) <|
            .a 2 2 <| .p (does_i ((u - 1 : Nat) : Int) ((show (IntKind.wrap .i64 (((u : Nat) : Int) - 1)) = ((u - 1 : Nat) : Int) from ((wrap_i64 (by omega) (by omega)).trans (by omega)))) .i64) <|
            .p (does_indexSlice (t := 24) (x := .tmp 36) (y := .tmp 38) (k := 0) (off := 0) (n := h.length) (c := 0) (z := 2) (kd := .i64) (j := ((u - 1 : Nat) : Int)) (by kernel_rfl) (by kernel_rfl) (by kernel_rfl) (by kernel_rfl) (by kernel_rfl) (by omega) (by omega)) <|
            .p (does_load (t := 29) (x := .tmp 39) (k := 0) (off := (0 + (((u - 1 : Nat) : Int)).toNat * 2)) (b := ⟨(h.flatMap ptc), 29, true, 2⟩) (v := .agg #[.int .i64 ((h.getD (u - 1) (0, 0)).1), .int .i64 ((h.getD (u - 1) (0, 0)).2)]) (by kernel_rfl) (by kernel_rfl) (by kernel_rfl) (ldV_pair (j := (u - 1)) (by kernel_rfl) (by kernel_rfl) (by omega) (by omega))) <|
            .a 1 2 <|
            .p (does_c (rcross_in ((h.getD 0 (0, 0)).1) ((h.getD 0 (0, 0)).2) ((h.getD (u - 1) (0, 0)).1) ((h.getD (u - 1) (0, 0)).2) (Sp.lim 1048576 x) (Sp.lim 1048576 y) (by omega) (by omega) (by omega) (by omega) (by omega) (by omega) (by omega) (by omega) (by omega) (by omega) (by omega) (by omega))) <|
            .p (does_b true (h3)) <| .a 3 2 <| .p (does_i ((u - 1 : Nat) : Int) ((show (IntKind.wrap .i64 (((u : Nat) : Int) - 1)) = ((u - 1 : Nat) : Int) from ((wrap_i64 (by omega) (by omega)).trans (by omega)))) .i64) <|
            .p (does_indexSlice (t := 24) (x := .tmp 45) (y := .tmp 47) (k := 0) (off := 0) (n := h.length) (c := 0) (z := 2) (kd := .i64) (j := ((u - 1 : Nat) : Int)) (by kernel_rfl) (by kernel_rfl) (by kernel_rfl) (by kernel_rfl) (by kernel_rfl) (by omega) (by omega)) <|
            .p (does_load (t := 29) (x := .tmp 48) (k := 0) (off := (0 + (((u - 1 : Nat) : Int)).toNat * 2)) (b := ⟨(h.flatMap ptc), 29, true, 2⟩) (v := .agg #[.int .i64 ((h.getD (u - 1) (0, 0)).1), .int .i64 ((h.getD (u - 1) (0, 0)).2)]) (by kernel_rfl) (by kernel_rfl) (by kernel_rfl) (ldV_pair (j := (u - 1)) (by kernel_rfl) (by kernel_rfl) (by omega) (by omega))) <|
            .a 2 2 <| .p (does_indexSlice (t := 24) (x := .tmp 50) (y := .tmp 51) (k := 0) (off := 0) (n := h.length) (c := 0) (z := 2) (kd := .i64) (j := ((u : Nat) : Int)) (by kernel_rfl) (by kernel_rfl) (by kernel_rfl) (by kernel_rfl) (by kernel_rfl) (by omega) (by omega)) <|
            .p (does_load (t := 29) (x := .tmp 52) (k := 0) (off := (0 + (((u : Nat) : Int)).toNat * 2)) (b := ⟨(h.flatMap ptc), 29, true, 2⟩) (v := .agg #[.int .i64 ((h.getD u (0, 0)).1), .int .i64 ((h.getD u (0, 0)).2)]) (by kernel_rfl) (by kernel_rfl) (by kernel_rfl) (ldV_pair (j := u) (by kernel_rfl) (by kernel_rfl) (by omega) (by omega))) <|
            .a 1 2 <|
            .p (does_c (rcross_in ((h.getD (u - 1) (0, 0)).1) ((h.getD (u - 1) (0, 0)).2) ((h.getD u (0, 0)).1) ((h.getD u (0, 0)).2) (Sp.lim 1048576 x) (Sp.lim 1048576 y) (by omega) (by omega) (by omega) (by omega) (by omega) (by omega) (by omega) (by omega) (by omega) (by omega) (by omega) (by omega))) <|
            .p (does_b true (h4)) <| .a 4 2 <| .p (does_indexSlice (t := 24) (x := .tmp 59) (y := .tmp 60) (k := 0) (off := 0) (n := h.length) (c := 0) (z := 2) (kd := .i64) (j := ((u : Nat) : Int)) (by kernel_rfl) (by kernel_rfl) (by kernel_rfl) (by kernel_rfl) (by kernel_rfl) (by omega) (by omega)) <|
            .p (does_load (t := 29) (x := .tmp 61) (k := 0) (off := (0 + (((u : Nat) : Int)).toNat * 2)) (b := ⟨(h.flatMap ptc), 29, true, 2⟩) (v := .agg #[.int .i64 ((h.getD u (0, 0)).1), .int .i64 ((h.getD u (0, 0)).2)]) (by kernel_rfl) (by kernel_rfl) (by kernel_rfl) (ldV_pair (j := u) (by kernel_rfl) (by kernel_rfl) (by omega) (by omega))) <|
            .a 1 2 <| .p (does_indexSlice (t := 24) (x := .tmp 63) (y := .const (.int .i64 0)) (k := 0) (off := 0) (n := h.length) (c := 0) (z := 2) (kd := .i64) (j := 0) (by kernel_rfl) (by kernel_rfl) (by kernel_rfl) (by kernel_rfl) (by kernel_rfl) (by omega) (by omega)) <|
            .p (does_load (t := 29) (x := .tmp 64) (k := 0) (off := 0) (b := ⟨(h.flatMap ptc), 29, true, 2⟩) (v := .agg #[.int .i64 ((h.getD 0 (0, 0)).1), .int .i64 ((h.getD 0 (0, 0)).2)]) (by kernel_rfl) (by kernel_rfl) (by kernel_rfl) (ldV_pair (j := 0) (by kernel_rfl) (by kernel_rfl) (by omega) (by omega))) <|
            .a 1 2 <| .p (does_c (rcross_in ((h.getD u (0, 0)).1) ((h.getD u (0, 0)).2) ((h.getD 0 (0, 0)).1) ((h.getD 0 (0, 0)).2) (Sp.lim 1048576 x) (Sp.lim 1048576 y) (by omega) (by omega) (by omega) (by omega) (by omega) (by omega) (by omega) (by omega) (by omega) (by omega) (by omega) (by omega))) <|
            .a 2 2 <| .nil _ _) ?_
          refine aw_cd 7926 7927 (decide ((Sp.crs ((h.getD u (0, 0)).1) ((h.getD u (0, 0)).2) ((h.getD 0 (0, 0)).1) ((h.getD 0 (0, 0)).2) (Sp.lim 1048576 x) (Sp.lim 1048576 y)) ≥ 0)) (fun h5 => ?_) (fun h5 => ?_)
          · have h5p : (((Sp.crs ((h.getD u (0, 0)).1) ((h.getD u (0, 0)).2) ((h.getD 0 (0, 0)).1) ((h.getD 0 (0, 0)).2) (Sp.lim 1048576 x) (Sp.lim 1048576 y)) ≥ 0)) := by first | (simpa using h5) | (have h5q := h5; simp at h5q; omega) | (have h5q := bx1 h5; simp at h5q; omega)
            refine aw_p 15853 (
              .a 1 2 <| .nil _ _) ?_
            refine aw_rt ?_
            refine block_ret ?_
            refine then_ret ?_
            refine then_ret ?_
            refine block_ret ?_
            refine then_ret ?_
            exact en_ret [.bool true] (show (.bool true : Value) = (.bool (Sp.hasH h (Sp.lim 1048576 x) (Sp.lim 1048576 y))) from (congrArg Value.bool (show true = (Sp.hasH h (Sp.lim 1048576 x) (Sp.lim 1048576 y)) from by (first | exact Sp.has_short (by omega) (by omega) | exact (Sp.has_short (by omega) (by omega)).symm | exact (Sp.fan_has hh hi.1 hul (Sp.fan_t (by assumption) (by assumption) (by assumption))).symm | exact (Sp.fan_end hnf h3 hge).symm))))
          · have h5p : ¬ (((Sp.crs ((h.getD u (0, 0)).1) ((h.getD u (0, 0)).2) ((h.getD 0 (0, 0)).1) ((h.getD 0 (0, 0)).2) (Sp.lim 1048576 x) (Sp.lim 1048576 y)) ≥ 0)) := by first | (simpa using h5) | (have h5q := h5; simp at h5q; omega) | (have h5q := bx2 h5; simp at h5q; omega)
            refine aw_sk ?_
            refine block_normal ?_
            refine then_normal ?_
            refine aw_p1 (
              .a 1 2 <| .p (does_i (((u : Nat) : Int) + 1) (wrap_i64 (by omega) (by omega)) .i64) <| .a 1 2 <| .nil _ _) ?_
            refine then_normal ?_
            refine al_w [(0, .slice (some ⟨0, 0, none⟩) h.length 0), (3, .pointer (some ⟨1, 0, none⟩)), (4, .bool false), (5, .int .i64 (((u + 1) : Nat) : Int))] [(0, ⟨(h.flatMap ptc), 29, true, 2⟩), (1, ⟨[.int .i64 (Sp.lim 1048576 x), .int .i64 (Sp.lim 1048576 y)], 29, true, 2⟩)] ?_ (hc := (by simp [closedB, valsB, valB, List.all_eq_true, List.mem_flatMap, List.mem_range, List.mem_map, i64v, ptc, flat1]; try (intros; simp [valsB, valB, flat1]); try decide))
            exact ih1 (u + 1) (show (2 ≤ (u + 1) ∧ (u + 1) ≤ h.length) ∧ (∀ j, 2 ≤ j → j < (u + 1) → ¬ Sp.Fan h (Sp.lim 1048576 x, Sp.lim 1048576 y) j) from ⟨by omega, by (exact Sp.fan_step hnf (by first | exact Sp.fan_f1 (by assumption) | exact Sp.fan_f2 (by assumption) | exact Sp.fan_f3 (by assumption)))⟩) (show h.length - (u + 1) < h.length - u from by omega)
        · have h4p : ¬ (((Sp.crs ((h.getD (u - 1) (0, 0)).1) ((h.getD (u - 1) (0, 0)).2) ((h.getD u (0, 0)).1) ((h.getD u (0, 0)).2) (Sp.lim 1048576 x) (Sp.lim 1048576 y)) ≥ 0)) := by first | (simpa using h4) | (have h4q := h4; simp at h4q; omega) | (have h4q := bx2 h4; simp at h4q; omega)
          refine aw_d 3963 (
            .a 1 2 <| .p (does_indexSlice (t := 24) (x := .tmp 33) (y := .const (.int .i64 0)) (k := 0) (off := 0) (n := h.length) (c := 0) (z := 2) (kd := .i64) (j := 0) (by kernel_rfl) (by kernel_rfl) (by kernel_rfl) (by kernel_rfl) (by kernel_rfl) (by omega) (by omega)) <|
            .p (does_load (t := 29) (x := .tmp 34) (k := 0) (off := 0) (b := ⟨(h.flatMap ptc), 29, true, 2⟩) (v := .agg #[.int .i64 ((h.getD 0 (0, 0)).1), .int .i64 ((h.getD 0 (0, 0)).2)]) (by kernel_rfl) (by kernel_rfl) (by kernel_rfl) (ldV_pair (j := 0) (by kernel_rfl) (by kernel_rfl) (by omega) (by omega))) <|
            .a 2 2 <| .p (does_i ((u - 1 : Nat) : Int) ((show (IntKind.wrap .i64 (((u : Nat) : Int) - 1)) = ((u - 1 : Nat) : Int) from ((wrap_i64 (by omega) (by omega)).trans (by omega)))) .i64) <|
            .p (does_indexSlice (t := 24) (x := .tmp 36) (y := .tmp 38) (k := 0) (off := 0) (n := h.length) (c := 0) (z := 2) (kd := .i64) (j := ((u - 1 : Nat) : Int)) (by kernel_rfl) (by kernel_rfl) (by kernel_rfl) (by kernel_rfl) (by kernel_rfl) (by omega) (by omega)) <|
            .p (does_load (t := 29) (x := .tmp 39) (k := 0) (off := (0 + (((u - 1 : Nat) : Int)).toNat * 2)) (b := ⟨(h.flatMap ptc), 29, true, 2⟩) (v := .agg #[.int .i64 ((h.getD (u - 1) (0, 0)).1), .int .i64 ((h.getD (u - 1) (0, 0)).2)]) (by kernel_rfl) (by kernel_rfl) (by kernel_rfl) (ldV_pair (j := (u - 1)) (by kernel_rfl) (by kernel_rfl) (by omega) (by omega))) <|
            .a 1 2 <|
            .p (does_c (rcross_in ((h.getD 0 (0, 0)).1) ((h.getD 0 (0, 0)).2) ((h.getD (u - 1) (0, 0)).1) ((h.getD (u - 1) (0, 0)).2) (Sp.lim 1048576 x) (Sp.lim 1048576 y) (by omega) (by omega) (by omega) (by omega) (by omega) (by omega) (by omega) (by omega) (by omega) (by omega) (by omega) (by omega))) <|
            .p (does_b true (h3)) <| .a 3 2 <| .p (does_i ((u - 1 : Nat) : Int) ((show (IntKind.wrap .i64 (((u : Nat) : Int) - 1)) = ((u - 1 : Nat) : Int) from ((wrap_i64 (by omega) (by omega)).trans (by omega)))) .i64) <|
            .p (does_indexSlice (t := 24) (x := .tmp 45) (y := .tmp 47) (k := 0) (off := 0) (n := h.length) (c := 0) (z := 2) (kd := .i64) (j := ((u - 1 : Nat) : Int)) (by kernel_rfl) (by kernel_rfl) (by kernel_rfl) (by kernel_rfl) (by kernel_rfl) (by omega) (by omega)) <|
            .p (does_load (t := 29) (x := .tmp 48) (k := 0) (off := (0 + (((u - 1 : Nat) : Int)).toNat * 2)) (b := ⟨(h.flatMap ptc), 29, true, 2⟩) (v := .agg #[.int .i64 ((h.getD (u - 1) (0, 0)).1), .int .i64 ((h.getD (u - 1) (0, 0)).2)]) (by kernel_rfl) (by kernel_rfl) (by kernel_rfl) (ldV_pair (j := (u - 1)) (by kernel_rfl) (by kernel_rfl) (by omega) (by omega))) <|
            .a 2 2 <| .p (does_indexSlice (t := 24) (x := .tmp 50) (y := .tmp 51) (k := 0) (off := 0) (n := h.length) (c := 0) (z := 2) (kd := .i64) (j := ((u : Nat) : Int)) (by kernel_rfl) (by kernel_rfl) (by kernel_rfl) (by kernel_rfl) (by kernel_rfl) (by omega) (by omega)) <|
            .p (does_load (t := 29) (x := .tmp 52) (k := 0) (off := (0 + (((u : Nat) : Int)).toNat * 2)) (b := ⟨(h.flatMap ptc), 29, true, 2⟩) (v := .agg #[.int .i64 ((h.getD u (0, 0)).1), .int .i64 ((h.getD u (0, 0)).2)]) (by kernel_rfl) (by kernel_rfl) (by kernel_rfl) (ldV_pair (j := u) (by kernel_rfl) (by kernel_rfl) (by omega) (by omega))) <|
            .a 1 2 <|
            .p (does_c (rcross_in ((h.getD (u - 1) (0, 0)).1) ((h.getD (u - 1) (0, 0)).2) ((h.getD u (0, 0)).1) ((h.getD u (0, 0)).2) (Sp.lim 1048576 x) (Sp.lim 1048576 y) (by omega) (by omega) (by omega) (by omega) (by omega) (by omega) (by omega) (by omega) (by omega) (by omega) (by omega) (by omega))) <|
            .p (does_b false (h4)) <| .a 13 2 <| .nil _ _) ?_
          refine aw_fl 7927 ?_
          refine aw_sk ?_
          refine block_normal ?_
          refine then_normal ?_
          refine aw_p1 (
            .a 1 2 <| .p (does_i (((u : Nat) : Int) + 1) (wrap_i64 (by omega) (by omega)) .i64) <| .a 1 2 <| .nil _ _) ?_
          refine then_normal ?_
          refine al_w [(0, .slice (some ⟨0, 0, none⟩) h.length 0), (3, .pointer (some ⟨1, 0, none⟩)), (4, .bool false), (5, .int .i64 (((u + 1) : Nat) : Int))] [(0, ⟨(h.flatMap ptc), 29, true, 2⟩), (1, ⟨[.int .i64 (Sp.lim 1048576 x), .int .i64 (Sp.lim 1048576 y)], 29, true, 2⟩)] ?_ (hc := (by simp [closedB, valsB, valB, List.all_eq_true, List.mem_flatMap, List.mem_range, List.mem_map, i64v, ptc, flat1]; try (intros; simp [valsB, valB, flat1]); try decide))
          exact ih1 (u + 1) (show (2 ≤ (u + 1) ∧ (u + 1) ≤ h.length) ∧ (∀ j, 2 ≤ j → j < (u + 1) → ¬ Sp.Fan h (Sp.lim 1048576 x, Sp.lim 1048576 y) j) from ⟨by omega, by (exact Sp.fan_step hnf (by first | exact Sp.fan_f1 (by assumption) | exact Sp.fan_f2 (by assumption) | exact Sp.fan_f3 (by assumption)))⟩) (show h.length - (u + 1) < h.length - u from by omega)
      · have h3p : ¬ (((Sp.crs ((h.getD 0 (0, 0)).1) ((h.getD 0 (0, 0)).2) ((h.getD (u - 1) (0, 0)).1) ((h.getD (u - 1) (0, 0)).2) (Sp.lim 1048576 x) (Sp.lim 1048576 y)) ≥ 0)) := by first | (simpa using h3) | (have h3q := h3; simp at h3q; omega) | (have h3q := bx2 h3; simp at h3q; omega)
        refine aw_d 3963 (
          .a 1 2 <| .p (does_indexSlice (t := 24) (x := .tmp 33) (y := .const (.int .i64 0)) (k := 0) (off := 0) (n := h.length) (c := 0) (z := 2) (kd := .i64) (j := 0) (by kernel_rfl) (by kernel_rfl) (by kernel_rfl) (by kernel_rfl) (by kernel_rfl) (by omega) (by omega)) <|
          .p (does_load (t := 29) (x := .tmp 34) (k := 0) (off := 0) (b := ⟨(h.flatMap ptc), 29, true, 2⟩) (v := .agg #[.int .i64 ((h.getD 0 (0, 0)).1), .int .i64 ((h.getD 0 (0, 0)).2)]) (by kernel_rfl) (by kernel_rfl) (by kernel_rfl) (ldV_pair (j := 0) (by kernel_rfl) (by kernel_rfl) (by omega) (by omega))) <|
          .a 2 2 <| .p (does_i ((u - 1 : Nat) : Int) ((show (IntKind.wrap .i64 (((u : Nat) : Int) - 1)) = ((u - 1 : Nat) : Int) from ((wrap_i64 (by omega) (by omega)).trans (by omega)))) .i64) <|
          .p (does_indexSlice (t := 24) (x := .tmp 36) (y := .tmp 38) (k := 0) (off := 0) (n := h.length) (c := 0) (z := 2) (kd := .i64) (j := ((u - 1 : Nat) : Int)) (by kernel_rfl) (by kernel_rfl) (by kernel_rfl) (by kernel_rfl) (by kernel_rfl) (by omega) (by omega)) <|
          .p (does_load (t := 29) (x := .tmp 39) (k := 0) (off := (0 + (((u - 1 : Nat) : Int)).toNat * 2)) (b := ⟨(h.flatMap ptc), 29, true, 2⟩) (v := .agg #[.int .i64 ((h.getD (u - 1) (0, 0)).1), .int .i64 ((h.getD (u - 1) (0, 0)).2)]) (by kernel_rfl) (by kernel_rfl) (by kernel_rfl) (ldV_pair (j := (u - 1)) (by kernel_rfl) (by kernel_rfl) (by omega) (by omega))) <|
          .a 1 2 <|
          .p (does_c (rcross_in ((h.getD 0 (0, 0)).1) ((h.getD 0 (0, 0)).2) ((h.getD (u - 1) (0, 0)).1) ((h.getD (u - 1) (0, 0)).2) (Sp.lim 1048576 x) (Sp.lim 1048576 y) (by omega) (by omega) (by omega) (by omega) (by omega) (by omega) (by omega) (by omega) (by omega) (by omega) (by omega) (by omega))) <|
          .p (does_b false (h3)) <| .a 26 2 <| .nil _ _) ?_
        refine aw_fl 7927 ?_
        refine aw_sk ?_
        refine block_normal ?_
        refine then_normal ?_
        refine aw_p1 (
          .a 1 2 <| .p (does_i (((u : Nat) : Int) + 1) (wrap_i64 (by omega) (by omega)) .i64) <| .a 1 2 <| .nil _ _) ?_
        refine then_normal ?_
        refine al_w [(0, .slice (some ⟨0, 0, none⟩) h.length 0), (3, .pointer (some ⟨1, 0, none⟩)), (4, .bool false), (5, .int .i64 (((u + 1) : Nat) : Int))] [(0, ⟨(h.flatMap ptc), 29, true, 2⟩), (1, ⟨[.int .i64 (Sp.lim 1048576 x), .int .i64 (Sp.lim 1048576 y)], 29, true, 2⟩)] ?_ (hc := (by simp [closedB, valsB, valB, List.all_eq_true, List.mem_flatMap, List.mem_range, List.mem_map, i64v, ptc, flat1]; try (intros; simp [valsB, valB, flat1]); try decide))
        exact ih1 (u + 1) (show (2 ≤ (u + 1) ∧ (u + 1) ≤ h.length) ∧ (∀ j, 2 ≤ j → j < (u + 1) → ¬ Sp.Fan h (Sp.lim 1048576 x, Sp.lim 1048576 y) j) from ⟨by omega, by (exact Sp.fan_step hnf (by first | exact Sp.fan_f1 (by assumption) | exact Sp.fan_f2 (by assumption) | exact Sp.fan_f3 (by assumption)))⟩) (show h.length - (u + 1) < h.length - u from by omega)
    · have h2p : ¬ ((((u : Nat) : Int) < ((h.length : Nat) : Int))) := by first | (simpa using h2) | (have h2q := h2; simp at h2q; omega) | (have h2q := bx2 h2; simp at h2q; omega)
      have hge : ¬ u < h.length := by omega
      refine aw_ex 0 ?_
      refine then_exit ?_
      refine then_exit ?_
      refine block_exit ?_
      refine then_normal ?_
      refine aw_p 63 (
        .a 1 2 <| .nil _ _) ?_
      refine aw_rt ?_
      exact en_ret [.bool false] (show (.bool false : Value) = (.bool (Sp.hasH h (Sp.lim 1048576 x) (Sp.lim 1048576 y))) from (congrArg Value.bool (show false = (Sp.hasH h (Sp.lim 1048576 x) (Sp.lim 1048576 y)) from by (first | exact Sp.has_short (by omega) (by omega) | exact (Sp.has_short (by omega) (by omega)).symm | exact (Sp.fan_has hh hi.1 hul (Sp.fan_t (by assumption) (by assumption) (by assumption))).symm | exact (Sp.fan_end hnf h3 hge).symm))))


end Go.Proofs.Ytadifmimefmcnaa.Am
