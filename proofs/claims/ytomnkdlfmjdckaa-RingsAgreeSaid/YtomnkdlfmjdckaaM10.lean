import Derived.Test.YtomnkdlfmjdckaaProg
import Derived.Test.YtomnkdlfmjdckaaM2
import Derived.Test.YtomnkdlfmjdckaaM9
namespace Go.Proofs.Ytomnkdlfmjdckaa.Am
open Go Go.Proofs
set_option maxRecDepth 100000
set_option maxHeartbeats 4000000
set_option linter.unusedVariables false
set_option linter.unusedSimpArgs false
theorem hullhas_ro (ps h : List (Int × Int)) (hh : Sp.hullF (ps.map Sp.lmP) = h) (h1 : 1 ≤ ps.length) (hz : ps.length ≤ 8796093021952) (x y : Int) (hhl : h.length ≤ 17592186043904) (hfh : Sp.Few 1048576 h) :
    AC Try.prog 15 1 ([.slice (some ⟨0, 0, none⟩) ps.length 0, .agg #[.int .i64 x, .int .i64 y]]) [(0, ⟨(ps.flatMap ptc), 27, false, 2⟩)] (.bool (Sp.hasH h (Sp.lim 1048576 x) (Sp.lim 1048576 y))) [] := by
  have qx := Sp.lim_bd (m := 1048576) (by decide) x; have qy := Sp.lim_bd (m := 1048576) (by decide) y
  refine ac_in Try.func15 (fun w0 W pin => ?_)
  refine aw_p 3 (
    .a 2 1 <| .nil _ _) ?_
  refine aw_p 7 (
    .a 1 2 <| .p (does_c (clamp_ok x y)) <| .a 1 2 <| .nil _ _) ?_
  refine aw_p 15 (
    .a 1 2 <|
    .p (does_callB (x := .func 9) (ars := #[.tmp 9]) (ats := #[24]) (g := 9) (vs := [.slice (some ⟨0, 0, none⟩) ps.length 0]) (m := 1) (r := 1) (firsts := #[]) (caps := #[]) (args0 := [.slice (some ⟨0, 0, none⟩) ps.length 0]) (pre0 := [(0, ⟨(ps.flatMap ptc), 27, false, 2⟩)]) (post0 := [(1, ⟨(h.flatMap ptc), 27, true, 2⟩)]) (pre := [(0, ⟨(ps.flatMap ptc), 27, false, 2⟩)]) (post := [(2, ⟨(h.flatMap ptc), 27, true, 2⟩)]) (v0 := .slice (some ⟨1, 0, none⟩) h.length 0) (v := .slice (some ⟨2, 0, none⟩) h.length 0) [0, 2] (by kernel_rfl) (by kernel_rfl) (by kernel_rfl) (by kernel_rfl) (hull_ro ps h hh h1 hz) (.cons (.slice _ _ _ _ _ (by decide)) .nil) ⟨rfl, ⟨rfl, rfl, rfl, (.flats (flats_pair _))⟩, trivial⟩ (by kernel_rfl) (by kernel_rfl) (by kernel_rfl) ⟨rfl, ⟨rfl, rfl, rfl, (.flats (flats_pair _))⟩, trivial⟩ (.slice _ _ _ _ _ (by decide))) <|
    .a 1 3 <| .nil _ _) ?_
  refine aw_sq 30 31 ?_
  refine aw_p 61 (
    .a 2 3 <| .nil _ _) ?_
  refine aw_bl 0 123 ?_
  refine aw_p 247 (
    .a 2 3 <| .nil _ _) ?_
  refine aw_cd 494 495 (((h.length : Nat) : Int) == 0) (fun h1 => ?_) (fun h1 => ?_)
  · have h1p : ((((h.length : Nat) : Int) = 0)) := by first | (simpa using h1) | (have h1q := h1; simp at h1q; omega) | (have h1q := bx1 h1; simp at h1q; omega)
    refine aw_p 989 (
      .a 1 3 <| .nil _ _) ?_
    refine aw_rt ?_
    refine block_ret ?_
    refine then_ret ?_
    exact en_ret [.bool false] (show (.bool false : Value) = (.bool (Sp.hasH h (Sp.lim 1048576 x) (Sp.lim 1048576 y))) from (congrArg Value.bool (show false = (Sp.hasH h (Sp.lim 1048576 x) (Sp.lim 1048576 y)) from by (first | exact (Sp.hasH_0 (by omega)).symm | exact (Sp.hasH_1 (by omega)).symm | exact (Sp.hasH_2 (by omega)).symm | exact (by rw [Sp.hasH_3 (by omega), ← hs, Sp.hasL_out hil hj (by assumption)]) | exact (by rw [Sp.hasH_3 (by omega), ← hs, Sp.hasL_end hge])))))
  · have h1p : ¬ ((((h.length : Nat) : Int) = 0)) := by first | (simpa using h1) | (have h1q := h1; simp at h1q; omega) | (have h1q := bx2 h1; simp at h1q; omega)
    refine aw_p 991 (
      .a 2 3 <| .nil _ _) ?_
    refine aw_cd 1982 1983 (((h.length : Nat) : Int) == 1) (fun h2 => ?_) (fun h2 => ?_)
    · have h2p : ((((h.length : Nat) : Int) = 1)) := by first | (simpa using h2) | (have h2q := h2; simp at h2q; omega) | (have h2q := bx1 h2; simp at h2q; omega)
      refine aw_d 3965 (
        .a 1 3 <| .p (does_indexSlice (t := 24) (x := .tmp 17) (y := .const (.int .i64 0)) (k := 2) (off := 0) (n := h.length) (c := 0) (z := 2) (kd := .i64) (j := 0) (by kernel_rfl) (by kernel_rfl) (by kernel_rfl) (by kernel_rfl) (by kernel_rfl) (by omega) (by omega)) <|
        .p (does_load (t := 27) (x := .tmp 18) (k := 2) (off := 0) (b := ⟨(h.flatMap ptc), 27, true, 2⟩) (v := .agg #[.int .i64 ((h.getD 0 (0, 0)).1), .int .i64 ((h.getD 0 (0, 0)).2)]) (by kernel_rfl) (by kernel_rfl) (by kernel_rfl) (ldV_pair (j := 0) (by kernel_rfl) (by kernel_rfl) (by omega) (by omega))) <|
        .a 1 3 <| .p (does_e ((((h.getD 0 (0, 0)).1) == (Sp.lim 1048576 x)) && ((((h.getD 0 (0, 0)).2) == (Sp.lim 1048576 y)) && true)) (rfl)) <| .a 1 3 <| .nil _ _) ?_
      refine aw_rt ?_
      refine block_ret ?_
      refine then_ret ?_
      exact en_ret [.bool ((((h.getD 0 (0, 0)).1) == (Sp.lim 1048576 x)) && ((((h.getD 0 (0, 0)).2) == (Sp.lim 1048576 y)) && true))] (show (.bool ((((h.getD 0 (0, 0)).1) == (Sp.lim 1048576 x)) && ((((h.getD 0 (0, 0)).2) == (Sp.lim 1048576 y)) && true)) : Value) = (.bool (Sp.hasH h (Sp.lim 1048576 x) (Sp.lim 1048576 y))) from (congrArg Value.bool (show ((((h.getD 0 (0, 0)).1) == (Sp.lim 1048576 x)) && ((((h.getD 0 (0, 0)).2) == (Sp.lim 1048576 y)) && true)) = (Sp.hasH h (Sp.lim 1048576 x) (Sp.lim 1048576 y)) from by (first | exact (Sp.hasH_0 (by omega)).symm | exact (Sp.hasH_1 (by omega)).symm | exact (Sp.hasH_2 (by omega)).symm | exact (by rw [Sp.hasH_3 (by omega), ← hs, Sp.hasL_out hil hj (by assumption)]) | exact (by rw [Sp.hasH_3 (by omega), ← hs, Sp.hasL_end hge])))))
    · have h2p : ¬ ((((h.length : Nat) : Int) = 1)) := by first | (simpa using h2) | (have h2q := h2; simp at h2q; omega) | (have h2q := bx2 h2; simp at h2q; omega)
      refine aw_p 3967 (
        .a 2 3 <| .nil _ _) ?_
      refine aw_cd 7934 7935 (((h.length : Nat) : Int) == 2) (fun h3 => ?_) (fun h3 => ?_)
      · have h3p : ((((h.length : Nat) : Int) = 2)) := by first | (simpa using h3) | (have h3q := h3; simp at h3q; omega) | (have h3q := bx1 h3; simp at h3q; omega)
        have f0 := hfh 0; have f1 := hfh 1
        refine aw_d 15869 (
          .a 1 3 <| .p (does_indexSlice (t := 24) (x := .tmp 24) (y := .const (.int .i64 0)) (k := 2) (off := 0) (n := h.length) (c := 0) (z := 2) (kd := .i64) (j := 0) (by kernel_rfl) (by kernel_rfl) (by kernel_rfl) (by kernel_rfl) (by kernel_rfl) (by omega) (by omega)) <|
          .p (does_load (t := 27) (x := .tmp 25) (k := 2) (off := 0) (b := ⟨(h.flatMap ptc), 27, true, 2⟩) (v := .agg #[.int .i64 ((h.getD 0 (0, 0)).1), .int .i64 ((h.getD 0 (0, 0)).2)]) (by kernel_rfl) (by kernel_rfl) (by kernel_rfl) (ldV_pair (j := 0) (by kernel_rfl) (by kernel_rfl) (by omega) (by omega))) <|
          .a 1 3 <| .p (does_indexSlice (t := 24) (x := .tmp 27) (y := .const (.int .i64 1)) (k := 2) (off := 0) (n := h.length) (c := 0) (z := 2) (kd := .i64) (j := 1) (by kernel_rfl) (by kernel_rfl) (by kernel_rfl) (by kernel_rfl) (by kernel_rfl) (by omega) (by omega)) <|
          .p (does_load (t := 27) (x := .tmp 28) (k := 2) (off := 2) (b := ⟨(h.flatMap ptc), 27, true, 2⟩) (v := .agg #[.int .i64 ((h.getD 1 (0, 0)).1), .int .i64 ((h.getD 1 (0, 0)).2)]) (by kernel_rfl) (by kernel_rfl) (by kernel_rfl) (ldV_pair (j := 1) (by kernel_rfl) (by kernel_rfl) (by omega) (by omega))) <|
          .a 1 3 <| .p (does_c (on_in ((h.getD 0 (0, 0)).1) ((h.getD 0 (0, 0)).2) ((h.getD 1 (0, 0)).1) ((h.getD 1 (0, 0)).2) (Sp.lim 1048576 x) (Sp.lim 1048576 y) (by omega) (by omega) (by omega) (by omega) (by omega) (by omega) (by omega) (by omega) (by omega) (by omega) (by omega) (by omega))) <| .a 1 3 <| .nil _ _) ?_
        refine aw_rt ?_
        refine block_ret ?_
        refine then_ret ?_
        exact en_ret [.bool (Sp.onb ((h.getD 0 (0, 0)).1) ((h.getD 0 (0, 0)).2) ((h.getD 1 (0, 0)).1) ((h.getD 1 (0, 0)).2) (Sp.lim 1048576 x) (Sp.lim 1048576 y))] (show (.bool (Sp.onb ((h.getD 0 (0, 0)).1) ((h.getD 0 (0, 0)).2) ((h.getD 1 (0, 0)).1) ((h.getD 1 (0, 0)).2) (Sp.lim 1048576 x) (Sp.lim 1048576 y)) : Value) = (.bool (Sp.hasH h (Sp.lim 1048576 x) (Sp.lim 1048576 y))) from (congrArg Value.bool (show (Sp.onb ((h.getD 0 (0, 0)).1) ((h.getD 0 (0, 0)).2) ((h.getD 1 (0, 0)).1) ((h.getD 1 (0, 0)).2) (Sp.lim 1048576 x) (Sp.lim 1048576 y)) = (Sp.hasH h (Sp.lim 1048576 x) (Sp.lim 1048576 y)) from by (first | exact (Sp.hasH_0 (by omega)).symm | exact (Sp.hasH_1 (by omega)).symm | exact (Sp.hasH_2 (by omega)).symm | exact (by rw [Sp.hasH_3 (by omega), ← hs, Sp.hasL_out hil hj (by assumption)]) | exact (by rw [Sp.hasH_3 (by omega), ← hs, Sp.hasL_end hge])))))
      · have h3p : ¬ ((((h.length : Nat) : Int) = 2)) := by first | (simpa using h3) | (have h3q := h3; simp at h3q; omega) | (have h3q := bx2 h3; simp at h3q; omega)
        refine aw_sk ?_
        refine block_normal ?_
        refine then_normal ?_
        refine aw_sq 62 63 ?_
        refine aw_p 125 (
          .a 3 3 <| .nil _ _) ?_
        refine aw_bl 1 251 ?_
        refine aw_lp 503 ?_
        refine al_w [(3, .pointer (some ⟨1, 0, none⟩)), (4, .bool false), (5, .slice (some ⟨2, 0, none⟩) h.length 0), (33, .int .i64 ((h.length : Nat) : Int)), (34, .int .i64 ((0 : Nat) : Int))] [(0, ⟨(ps.flatMap ptc), 27, false, 2⟩), (1, ⟨[.int .i64 (Sp.lim 1048576 x), .int .i64 (Sp.lim 1048576 y)], 27, true, 2⟩), (2, ⟨(h.flatMap ptc), 27, true, 2⟩)] ?_ (hc := (by simp [closedB, valsB, valB, List.all_eq_true, List.mem_flatMap, List.mem_range, List.mem_map, i64v, ptc, flat1]; try (intros; simp [valsB, valB, flat1]); try decide))
        refine al_ind (fun i : Nat => (fun (i : Nat) => mkSt 1 [(3, .pointer (some ⟨1, 0, none⟩)), (4, .bool false), (5, .slice (some ⟨2, 0, none⟩) h.length 0), (33, .int .i64 ((h.length : Nat) : Int)), (34, .int .i64 ((i : Nat) : Int))] [(0, ⟨(ps.flatMap ptc), 27, false, 2⟩), (1, ⟨[.int .i64 (Sp.lim 1048576 x), .int .i64 (Sp.lim 1048576 y)], 27, true, 2⟩), (2, ⟨(h.flatMap ptc), 27, true, 2⟩)]) i) (fun i : Nat => (fun (i : Nat) => (i ≤ h.length) ∧ (Sp.hasL h (Sp.lim 1048576 x) (Sp.lim 1048576 y) i = Sp.hasL h (Sp.lim 1048576 x) (Sp.lim 1048576 y) 0)) i) (fun i : Nat => (fun (i : Nat) => h.length - i) i) (fun i hi1 ih1 => ?_) 0 (show (0 ≤ h.length) ∧ (Sp.hasL h (Sp.lim 1048576 x) (Sp.lim 1048576 y) 0 = Sp.hasL h (Sp.lim 1048576 x) (Sp.lim 1048576 y) 0) from ⟨by omega, by rfl⟩)
        obtain ⟨i, hv1⟩ : ∃ z, z = i := ⟨i, rfl⟩; subst hv1
        have hi1' : (i ≤ h.length) ∧ (Sp.hasL h (Sp.lim 1048576 x) (Sp.lim 1048576 y) i = Sp.hasL h (Sp.lim 1048576 x) (Sp.lim 1048576 y) 0) := hi1
        obtain ⟨hi, hs⟩ := hi1'
        show AL _ _ _ (mkSt 1 [(3, .pointer (some ⟨1, 0, none⟩)), (4, .bool false), (5, .slice (some ⟨2, 0, none⟩) h.length 0), (33, .int .i64 ((h.length : Nat) : Int)), (34, .int .i64 ((i : Nat) : Int))] [(0, ⟨(ps.flatMap ptc), 27, false, 2⟩), (1, ⟨[.int .i64 (Sp.lim 1048576 x), .int .i64 (Sp.lim 1048576 y)], 27, true, 2⟩), (2, ⟨(h.flatMap ptc), 27, true, 2⟩)]) _
        refine al_round ?_
        refine aw_p 1007 (
          .a 1 3 <| .nil _ _) ?_
        refine aw_sq 2014 2015 ?_
        refine aw_cd 4028 4029 (decide (((i : Nat) : Int) < ((h.length : Nat) : Int))) (fun h4 => ?_) (fun h4 => ?_)
        · have h4p : ((((i : Nat) : Int) < ((h.length : Nat) : Int))) := by first | (simpa using h4) | (have h4q := h4; simp at h4q; omega) | (have h4q := bx1 h4; simp at h4q; omega)
          have hil : i < h.length := by omega
          obtain ⟨j, hj⟩ : ∃ j, (i + 1) % h.length = j := ⟨_, rfl⟩
          have hjl : j < h.length := hj ▸ Nat.mod_lt _ (by omega)
          have fi := hfh i; have fj := hfh j
          refine aw_sk ?_
          refine then_normal ?_
          refine aw_sq 4030 4031 ?_
          refine aw_bl 2 8061 ?_
          refine aw_p 16123 (
            .a 2 3 <| .nil _ _) ?_
          refine aw_d 32247 (
            .a 2 3 <| .p (does_indexSlice (t := 24) (x := .tmp 37) (y := .tmp 38) (k := 2) (off := 0) (n := h.length) (c := 0) (z := 2) (kd := .i64) (j := ((i : Nat) : Int)) (by kernel_rfl) (by kernel_rfl) (by kernel_rfl) (by kernel_rfl) (by kernel_rfl) (by omega) (by omega)) <|
            .p (does_load (t := 27) (x := .tmp 39) (k := 2) (off := (0 + (((i : Nat) : Int)).toNat * 2)) (b := ⟨(h.flatMap ptc), 27, true, 2⟩) (v := .agg #[.int .i64 ((h.getD i (0, 0)).1), .int .i64 ((h.getD i (0, 0)).2)]) (by kernel_rfl) (by kernel_rfl) (by kernel_rfl) (ldV_pair (j := i) (by kernel_rfl) (by kernel_rfl) (by omega) (by omega))) <|
            .a 2 3 <| .p (does_i (((i : Nat) : Int) + 1) (wrap_i64 (by omega) (by omega)) .i64) <| .a 2 3 <|
            .p (does_int (n' := ((j : Nat) : Int)) (does_rem (t := 3) (t2 := 3) (x := .tmp 43) (y := .tmp 45) (k := .i64) (a := (((i : Nat) : Int) + 1)) (b := ((h.length : Nat) : Int)) (by kernel_rfl) (by kernel_rfl) (by kernel_rfl) (by omega)) ((show (Int.tmod (((i : Nat) : Int) + 1) ((h.length : Nat) : Int)) = ((j : Nat) : Int) from (by rw [← hj]; exact rfl)))) <|
            .p (does_indexSlice (t := 24) (x := .tmp 41) (y := .tmp 46) (k := 2) (off := 0) (n := h.length) (c := 0) (z := 2) (kd := .i64) (j := ((j : Nat) : Int)) (by kernel_rfl) (by kernel_rfl) (by kernel_rfl) (by kernel_rfl) (by kernel_rfl) (by omega) (by omega)) <|
            .p (does_load (t := 27) (x := .tmp 47) (k := 2) (off := (0 + (((j : Nat) : Int)).toNat * 2)) (b := ⟨(h.flatMap ptc), 27, true, 2⟩) (v := .agg #[.int .i64 ((h.getD j (0, 0)).1), .int .i64 ((h.getD j (0, 0)).2)]) (by kernel_rfl) (by kernel_rfl) (by kernel_rfl) (ldV_pair (j := j) (by kernel_rfl) (by kernel_rfl) (by omega) (by omega))) <|
            .a 1 3 <| .p (does_c (turn_in ((h.getD i (0, 0)).1) ((h.getD i (0, 0)).2) ((h.getD j (0, 0)).1) ((h.getD j (0, 0)).2) (Sp.lim 1048576 x) (Sp.lim 1048576 y) (by omega) (by omega) (by omega) (by omega) (by omega) (by omega) (by omega) (by omega) (by omega) (by omega) (by omega) (by omega))) <|
            .a 1 3 <| .nil _ _) ?_
          refine aw_cd 64494 64495 (decide ((Sp.cmp (Sp.crs ((h.getD i (0, 0)).1) ((h.getD i (0, 0)).2) ((h.getD j (0, 0)).1) ((h.getD j (0, 0)).2) (Sp.lim 1048576 x) (Sp.lim 1048576 y)) 0) < 0)) (fun h5 => ?_) (fun h5 => ?_)
          · have h5p : (((Sp.cmp (Sp.crs ((h.getD i (0, 0)).1) ((h.getD i (0, 0)).2) ((h.getD j (0, 0)).1) ((h.getD j (0, 0)).2) (Sp.lim 1048576 x) (Sp.lim 1048576 y)) 0) < 0)) := by first | (simpa using h5) | (have h5q := h5; simp at h5q; omega) | (have h5q := bx1 h5; simp at h5q; omega)
            refine aw_p 128989 (
              .a 1 3 <| .nil _ _) ?_
            refine aw_rt ?_
            refine block_ret ?_
            refine then_ret ?_
            refine then_ret ?_
            refine block_ret ?_
            refine then_ret ?_
            exact en_ret [.bool false] (show (.bool false : Value) = (.bool (Sp.hasH h (Sp.lim 1048576 x) (Sp.lim 1048576 y))) from (congrArg Value.bool (show false = (Sp.hasH h (Sp.lim 1048576 x) (Sp.lim 1048576 y)) from by (first | exact (Sp.hasH_0 (by omega)).symm | exact (Sp.hasH_1 (by omega)).symm | exact (Sp.hasH_2 (by omega)).symm | exact (by rw [Sp.hasH_3 (by omega), ← hs, Sp.hasL_out hil hj (by assumption)]) | exact (by rw [Sp.hasH_3 (by omega), ← hs, Sp.hasL_end hge])))))
          · have h5p : ¬ (((Sp.cmp (Sp.crs ((h.getD i (0, 0)).1) ((h.getD i (0, 0)).2) ((h.getD j (0, 0)).1) ((h.getD j (0, 0)).2) (Sp.lim 1048576 x) (Sp.lim 1048576 y)) 0) < 0)) := by first | (simpa using h5) | (have h5q := h5; simp at h5q; omega) | (have h5q := bx2 h5; simp at h5q; omega)
            refine aw_sk ?_
            refine block_normal ?_
            refine then_normal ?_
            refine aw_p1 (
              .p (does_i (((i : Nat) : Int) + 1) (wrap_i64 (by omega) (by omega)) .i64) <| .a 1 3 <| .nil _ _) ?_
            refine then_normal ?_
            refine al_w [(3, .pointer (some ⟨1, 0, none⟩)), (4, .bool false), (5, .slice (some ⟨2, 0, none⟩) h.length 0), (33, .int .i64 ((h.length : Nat) : Int)), (34, .int .i64 (((i + 1) : Nat) : Int))] [(0, ⟨(ps.flatMap ptc), 27, false, 2⟩), (1, ⟨[.int .i64 (Sp.lim 1048576 x), .int .i64 (Sp.lim 1048576 y)], 27, true, 2⟩), (2, ⟨(h.flatMap ptc), 27, true, 2⟩)] ?_ (hc := (by simp [closedB, valsB, valB, List.all_eq_true, List.mem_flatMap, List.mem_range, List.mem_map, i64v, ptc, flat1]; try (intros; simp [valsB, valB, flat1]); try decide))
            exact ih1 (i + 1) (show ((i + 1) ≤ h.length) ∧ (Sp.hasL h (Sp.lim 1048576 x) (Sp.lim 1048576 y) (i + 1) = Sp.hasL h (Sp.lim 1048576 x) (Sp.lim 1048576 y) 0) from ⟨by omega, by (rw [← hs]; exact Sp.hasL_next hil hj (by assumption))⟩) (show h.length - (i + 1) < h.length - i from by omega)
        · have h4p : ¬ ((((i : Nat) : Int) < ((h.length : Nat) : Int))) := by first | (simpa using h4) | (have h4q := h4; simp at h4q; omega) | (have h4q := bx2 h4; simp at h4q; omega)
          have hge : ¬ i < h.length := by omega
          refine aw_ex 1 ?_
          refine then_exit ?_
          refine then_exit ?_
          refine block_exit ?_
          refine then_normal ?_
          refine aw_p 127 (
            .a 1 3 <| .nil _ _) ?_
          refine aw_rt ?_
          exact en_ret [.bool true] (show (.bool true : Value) = (.bool (Sp.hasH h (Sp.lim 1048576 x) (Sp.lim 1048576 y))) from (congrArg Value.bool (show true = (Sp.hasH h (Sp.lim 1048576 x) (Sp.lim 1048576 y)) from by (first | exact (Sp.hasH_0 (by omega)).symm | exact (Sp.hasH_1 (by omega)).symm | exact (Sp.hasH_2 (by omega)).symm | exact (by rw [Sp.hasH_3 (by omega), ← hs, Sp.hasL_out hil hj (by assumption)]) | exact (by rw [Sp.hasH_3 (by omega), ← hs, Sp.hasL_end hge])))))
theorem hullhas_own (ps h : List (Int × Int)) (hh : Sp.hullF (ps.map Sp.lmP) = h) (h1 : 1 ≤ ps.length) (hz : ps.length ≤ 8796093021952) (x y : Int) (hhl : h.length ≤ 17592186043904) (hfh : Sp.Few 1048576 h) :
    AC Try.prog 15 1 ([.slice (some ⟨0, 0, none⟩) ps.length 0, .agg #[.int .i64 x, .int .i64 y]]) [(0, ⟨(ps.flatMap ptc), 27, true, 2⟩)] (.bool (Sp.hasH h (Sp.lim 1048576 x) (Sp.lim 1048576 y))) [(0, ⟨(ps.flatMap ptc), 27, true, 2⟩)] := by
  have qx := Sp.lim_bd (m := 1048576) (by decide) x; have qy := Sp.lim_bd (m := 1048576) (by decide) y
  refine ac_in Try.func15 (fun w0 W pin => ?_)
  refine aw_p 3 (
    .a 2 1 <| .nil _ _) ?_
  refine aw_p 7 (
    .a 1 2 <| .p (does_c (clamp_ok x y)) <| .a 1 2 <| .nil _ _) ?_
  refine aw_p 15 (
    .a 1 2 <|
    .p (does_callB (x := .func 9) (ars := #[.tmp 9]) (ats := #[24]) (g := 9) (vs := [.slice (some ⟨0, 0, none⟩) ps.length 0]) (m := 1) (r := 1) (firsts := #[]) (caps := #[]) (args0 := [.slice (some ⟨0, 0, none⟩) ps.length 0]) (pre0 := [(0, ⟨(ps.flatMap ptc), 27, true, 2⟩)]) (post0 := [(0, ⟨(ps.flatMap ptc), 27, true, 2⟩), (1, ⟨(h.flatMap ptc), 27, true, 2⟩)]) (pre := [(0, ⟨(ps.flatMap ptc), 27, true, 2⟩)]) (post := [(0, ⟨(ps.flatMap ptc), 27, true, 2⟩), (2, ⟨(h.flatMap ptc), 27, true, 2⟩)]) (v0 := .slice (some ⟨1, 0, none⟩) h.length 0) (v := .slice (some ⟨2, 0, none⟩) h.length 0) [0, 2] (by kernel_rfl) (by kernel_rfl) (by kernel_rfl) (by kernel_rfl) (hull_own ps h hh h1 hz) (.cons (.slice _ _ _ _ _ (by decide)) .nil) ⟨rfl, ⟨rfl, rfl, rfl, (.flats (flats_pair _))⟩, trivial⟩ (by kernel_rfl) (by kernel_rfl) (by kernel_rfl) ⟨rfl, ⟨rfl, rfl, rfl, (.flats (flats_pair _))⟩, rfl, ⟨rfl, rfl, rfl, (.flats (flats_pair _))⟩, trivial⟩ (.slice _ _ _ _ _ (by decide))) <|
    .a 1 3 <| .nil _ _) ?_
  refine aw_sq 30 31 ?_
  refine aw_p 61 (
    .a 2 3 <| .nil _ _) ?_
  refine aw_bl 0 123 ?_
  refine aw_p 247 (
    .a 2 3 <| .nil _ _) ?_
  refine aw_cd 494 495 (((h.length : Nat) : Int) == 0) (fun h1 => ?_) (fun h1 => ?_)
  · have h1p : ((((h.length : Nat) : Int) = 0)) := by first | (simpa using h1) | (have h1q := h1; simp at h1q; omega) | (have h1q := bx1 h1; simp at h1q; omega)
    refine aw_p 989 (
      .a 1 3 <| .nil _ _) ?_
    refine aw_rt ?_
    refine block_ret ?_
    refine then_ret ?_
    exact en_ret [.bool false] (show (.bool false : Value) = (.bool (Sp.hasH h (Sp.lim 1048576 x) (Sp.lim 1048576 y))) from (congrArg Value.bool (show false = (Sp.hasH h (Sp.lim 1048576 x) (Sp.lim 1048576 y)) from by (first | exact (Sp.hasH_0 (by omega)).symm | exact (Sp.hasH_1 (by omega)).symm | exact (Sp.hasH_2 (by omega)).symm | exact (by rw [Sp.hasH_3 (by omega), ← hs, Sp.hasL_out hil hj (by assumption)]) | exact (by rw [Sp.hasH_3 (by omega), ← hs, Sp.hasL_end hge])))))
  · have h1p : ¬ ((((h.length : Nat) : Int) = 0)) := by first | (simpa using h1) | (have h1q := h1; simp at h1q; omega) | (have h1q := bx2 h1; simp at h1q; omega)
    refine aw_p 991 (
      .a 2 3 <| .nil _ _) ?_
    refine aw_cd 1982 1983 (((h.length : Nat) : Int) == 1) (fun h2 => ?_) (fun h2 => ?_)
    · have h2p : ((((h.length : Nat) : Int) = 1)) := by first | (simpa using h2) | (have h2q := h2; simp at h2q; omega) | (have h2q := bx1 h2; simp at h2q; omega)
      refine aw_d 3965 (
        .a 1 3 <| .p (does_indexSlice (t := 24) (x := .tmp 17) (y := .const (.int .i64 0)) (k := 2) (off := 0) (n := h.length) (c := 0) (z := 2) (kd := .i64) (j := 0) (by kernel_rfl) (by kernel_rfl) (by kernel_rfl) (by kernel_rfl) (by kernel_rfl) (by omega) (by omega)) <|
        .p (does_load (t := 27) (x := .tmp 18) (k := 2) (off := 0) (b := ⟨(h.flatMap ptc), 27, true, 2⟩) (v := .agg #[.int .i64 ((h.getD 0 (0, 0)).1), .int .i64 ((h.getD 0 (0, 0)).2)]) (by kernel_rfl) (by kernel_rfl) (by kernel_rfl) (ldV_pair (j := 0) (by kernel_rfl) (by kernel_rfl) (by omega) (by omega))) <|
        .a 1 3 <| .p (does_e ((((h.getD 0 (0, 0)).1) == (Sp.lim 1048576 x)) && ((((h.getD 0 (0, 0)).2) == (Sp.lim 1048576 y)) && true)) (rfl)) <| .a 1 3 <| .nil _ _) ?_
      refine aw_rt ?_
      refine block_ret ?_
      refine then_ret ?_
      exact en_ret [.bool ((((h.getD 0 (0, 0)).1) == (Sp.lim 1048576 x)) && ((((h.getD 0 (0, 0)).2) == (Sp.lim 1048576 y)) && true))] (show (.bool ((((h.getD 0 (0, 0)).1) == (Sp.lim 1048576 x)) && ((((h.getD 0 (0, 0)).2) == (Sp.lim 1048576 y)) && true)) : Value) = (.bool (Sp.hasH h (Sp.lim 1048576 x) (Sp.lim 1048576 y))) from (congrArg Value.bool (show ((((h.getD 0 (0, 0)).1) == (Sp.lim 1048576 x)) && ((((h.getD 0 (0, 0)).2) == (Sp.lim 1048576 y)) && true)) = (Sp.hasH h (Sp.lim 1048576 x) (Sp.lim 1048576 y)) from by (first | exact (Sp.hasH_0 (by omega)).symm | exact (Sp.hasH_1 (by omega)).symm | exact (Sp.hasH_2 (by omega)).symm | exact (by rw [Sp.hasH_3 (by omega), ← hs, Sp.hasL_out hil hj (by assumption)]) | exact (by rw [Sp.hasH_3 (by omega), ← hs, Sp.hasL_end hge])))))
    · have h2p : ¬ ((((h.length : Nat) : Int) = 1)) := by first | (simpa using h2) | (have h2q := h2; simp at h2q; omega) | (have h2q := bx2 h2; simp at h2q; omega)
      refine aw_p 3967 (
        .a 2 3 <| .nil _ _) ?_
      refine aw_cd 7934 7935 (((h.length : Nat) : Int) == 2) (fun h3 => ?_) (fun h3 => ?_)
      · have h3p : ((((h.length : Nat) : Int) = 2)) := by first | (simpa using h3) | (have h3q := h3; simp at h3q; omega) | (have h3q := bx1 h3; simp at h3q; omega)
        have f0 := hfh 0; have f1 := hfh 1
        refine aw_d 15869 (
          .a 1 3 <| .p (does_indexSlice (t := 24) (x := .tmp 24) (y := .const (.int .i64 0)) (k := 2) (off := 0) (n := h.length) (c := 0) (z := 2) (kd := .i64) (j := 0) (by kernel_rfl) (by kernel_rfl) (by kernel_rfl) (by kernel_rfl) (by kernel_rfl) (by omega) (by omega)) <|
          .p (does_load (t := 27) (x := .tmp 25) (k := 2) (off := 0) (b := ⟨(h.flatMap ptc), 27, true, 2⟩) (v := .agg #[.int .i64 ((h.getD 0 (0, 0)).1), .int .i64 ((h.getD 0 (0, 0)).2)]) (by kernel_rfl) (by kernel_rfl) (by kernel_rfl) (ldV_pair (j := 0) (by kernel_rfl) (by kernel_rfl) (by omega) (by omega))) <|
          .a 1 3 <| .p (does_indexSlice (t := 24) (x := .tmp 27) (y := .const (.int .i64 1)) (k := 2) (off := 0) (n := h.length) (c := 0) (z := 2) (kd := .i64) (j := 1) (by kernel_rfl) (by kernel_rfl) (by kernel_rfl) (by kernel_rfl) (by kernel_rfl) (by omega) (by omega)) <|
          .p (does_load (t := 27) (x := .tmp 28) (k := 2) (off := 2) (b := ⟨(h.flatMap ptc), 27, true, 2⟩) (v := .agg #[.int .i64 ((h.getD 1 (0, 0)).1), .int .i64 ((h.getD 1 (0, 0)).2)]) (by kernel_rfl) (by kernel_rfl) (by kernel_rfl) (ldV_pair (j := 1) (by kernel_rfl) (by kernel_rfl) (by omega) (by omega))) <|
          .a 1 3 <| .p (does_c (on_in ((h.getD 0 (0, 0)).1) ((h.getD 0 (0, 0)).2) ((h.getD 1 (0, 0)).1) ((h.getD 1 (0, 0)).2) (Sp.lim 1048576 x) (Sp.lim 1048576 y) (by omega) (by omega) (by omega) (by omega) (by omega) (by omega) (by omega) (by omega) (by omega) (by omega) (by omega) (by omega))) <| .a 1 3 <| .nil _ _) ?_
        refine aw_rt ?_
        refine block_ret ?_
        refine then_ret ?_
        exact en_ret [.bool (Sp.onb ((h.getD 0 (0, 0)).1) ((h.getD 0 (0, 0)).2) ((h.getD 1 (0, 0)).1) ((h.getD 1 (0, 0)).2) (Sp.lim 1048576 x) (Sp.lim 1048576 y))] (show (.bool (Sp.onb ((h.getD 0 (0, 0)).1) ((h.getD 0 (0, 0)).2) ((h.getD 1 (0, 0)).1) ((h.getD 1 (0, 0)).2) (Sp.lim 1048576 x) (Sp.lim 1048576 y)) : Value) = (.bool (Sp.hasH h (Sp.lim 1048576 x) (Sp.lim 1048576 y))) from (congrArg Value.bool (show (Sp.onb ((h.getD 0 (0, 0)).1) ((h.getD 0 (0, 0)).2) ((h.getD 1 (0, 0)).1) ((h.getD 1 (0, 0)).2) (Sp.lim 1048576 x) (Sp.lim 1048576 y)) = (Sp.hasH h (Sp.lim 1048576 x) (Sp.lim 1048576 y)) from by (first | exact (Sp.hasH_0 (by omega)).symm | exact (Sp.hasH_1 (by omega)).symm | exact (Sp.hasH_2 (by omega)).symm | exact (by rw [Sp.hasH_3 (by omega), ← hs, Sp.hasL_out hil hj (by assumption)]) | exact (by rw [Sp.hasH_3 (by omega), ← hs, Sp.hasL_end hge])))))
      · have h3p : ¬ ((((h.length : Nat) : Int) = 2)) := by first | (simpa using h3) | (have h3q := h3; simp at h3q; omega) | (have h3q := bx2 h3; simp at h3q; omega)
        refine aw_sk ?_
        refine block_normal ?_
        refine then_normal ?_
        refine aw_sq 62 63 ?_
        refine aw_p 125 (
          .a 3 3 <| .nil _ _) ?_
        refine aw_bl 1 251 ?_
        refine aw_lp 503 ?_
        refine al_w [(3, .pointer (some ⟨1, 0, none⟩)), (4, .bool false), (5, .slice (some ⟨2, 0, none⟩) h.length 0), (33, .int .i64 ((h.length : Nat) : Int)), (34, .int .i64 ((0 : Nat) : Int))] [(0, ⟨(ps.flatMap ptc), 27, true, 2⟩), (1, ⟨[.int .i64 (Sp.lim 1048576 x), .int .i64 (Sp.lim 1048576 y)], 27, true, 2⟩), (2, ⟨(h.flatMap ptc), 27, true, 2⟩)] ?_ (hc := (by simp [closedB, valsB, valB, List.all_eq_true, List.mem_flatMap, List.mem_range, List.mem_map, i64v, ptc, flat1]; try (intros; simp [valsB, valB, flat1]); try decide))
        refine al_ind (fun i : Nat => (fun (i : Nat) => mkSt 1 [(3, .pointer (some ⟨1, 0, none⟩)), (4, .bool false), (5, .slice (some ⟨2, 0, none⟩) h.length 0), (33, .int .i64 ((h.length : Nat) : Int)), (34, .int .i64 ((i : Nat) : Int))] [(0, ⟨(ps.flatMap ptc), 27, true, 2⟩), (1, ⟨[.int .i64 (Sp.lim 1048576 x), .int .i64 (Sp.lim 1048576 y)], 27, true, 2⟩), (2, ⟨(h.flatMap ptc), 27, true, 2⟩)]) i) (fun i : Nat => (fun (i : Nat) => (i ≤ h.length) ∧ (Sp.hasL h (Sp.lim 1048576 x) (Sp.lim 1048576 y) i = Sp.hasL h (Sp.lim 1048576 x) (Sp.lim 1048576 y) 0)) i) (fun i : Nat => (fun (i : Nat) => h.length - i) i) (fun i hi1 ih1 => ?_) 0 (show (0 ≤ h.length) ∧ (Sp.hasL h (Sp.lim 1048576 x) (Sp.lim 1048576 y) 0 = Sp.hasL h (Sp.lim 1048576 x) (Sp.lim 1048576 y) 0) from ⟨by omega, by rfl⟩)
        obtain ⟨i, hv1⟩ : ∃ z, z = i := ⟨i, rfl⟩; subst hv1
        have hi1' : (i ≤ h.length) ∧ (Sp.hasL h (Sp.lim 1048576 x) (Sp.lim 1048576 y) i = Sp.hasL h (Sp.lim 1048576 x) (Sp.lim 1048576 y) 0) := hi1
        obtain ⟨hi, hs⟩ := hi1'
        show AL _ _ _ (mkSt 1 [(3, .pointer (some ⟨1, 0, none⟩)), (4, .bool false), (5, .slice (some ⟨2, 0, none⟩) h.length 0), (33, .int .i64 ((h.length : Nat) : Int)), (34, .int .i64 ((i : Nat) : Int))] [(0, ⟨(ps.flatMap ptc), 27, true, 2⟩), (1, ⟨[.int .i64 (Sp.lim 1048576 x), .int .i64 (Sp.lim 1048576 y)], 27, true, 2⟩), (2, ⟨(h.flatMap ptc), 27, true, 2⟩)]) _
        refine al_round ?_
        refine aw_p 1007 (
          .a 1 3 <| .nil _ _) ?_
        refine aw_sq 2014 2015 ?_
        refine aw_cd 4028 4029 (decide (((i : Nat) : Int) < ((h.length : Nat) : Int))) (fun h4 => ?_) (fun h4 => ?_)
        · have h4p : ((((i : Nat) : Int) < ((h.length : Nat) : Int))) := by first | (simpa using h4) | (have h4q := h4; simp at h4q; omega) | (have h4q := bx1 h4; simp at h4q; omega)
          have hil : i < h.length := by omega
          obtain ⟨j, hj⟩ : ∃ j, (i + 1) % h.length = j := ⟨_, rfl⟩
          have hjl : j < h.length := hj ▸ Nat.mod_lt _ (by omega)
          have fi := hfh i; have fj := hfh j
          refine aw_sk ?_
          refine then_normal ?_
          refine aw_sq 4030 4031 ?_
          refine aw_bl 2 8061 ?_
          refine aw_p 16123 (
            .a 2 3 <| .nil _ _) ?_
          refine aw_d 32247 (
            .a 2 3 <| .p (does_indexSlice (t := 24) (x := .tmp 37) (y := .tmp 38) (k := 2) (off := 0) (n := h.length) (c := 0) (z := 2) (kd := .i64) (j := ((i : Nat) : Int)) (by kernel_rfl) (by kernel_rfl) (by kernel_rfl) (by kernel_rfl) (by kernel_rfl) (by omega) (by omega)) <|
            .p (does_load (t := 27) (x := .tmp 39) (k := 2) (off := (0 + (((i : Nat) : Int)).toNat * 2)) (b := ⟨(h.flatMap ptc), 27, true, 2⟩) (v := .agg #[.int .i64 ((h.getD i (0, 0)).1), .int .i64 ((h.getD i (0, 0)).2)]) (by kernel_rfl) (by kernel_rfl) (by kernel_rfl) (ldV_pair (j := i) (by kernel_rfl) (by kernel_rfl) (by omega) (by omega))) <|
            .a 2 3 <| .p (does_i (((i : Nat) : Int) + 1) (wrap_i64 (by omega) (by omega)) .i64) <| .a 2 3 <|
            .p (does_int (n' := ((j : Nat) : Int)) (does_rem (t := 3) (t2 := 3) (x := .tmp 43) (y := .tmp 45) (k := .i64) (a := (((i : Nat) : Int) + 1)) (b := ((h.length : Nat) : Int)) (by kernel_rfl) (by kernel_rfl) (by kernel_rfl) (by omega)) ((show (Int.tmod (((i : Nat) : Int) + 1) ((h.length : Nat) : Int)) = ((j : Nat) : Int) from (by rw [← hj]; exact rfl)))) <|
            .p (does_indexSlice (t := 24) (x := .tmp 41) (y := .tmp 46) (k := 2) (off := 0) (n := h.length) (c := 0) (z := 2) (kd := .i64) (j := ((j : Nat) : Int)) (by kernel_rfl) (by kernel_rfl) (by kernel_rfl) (by kernel_rfl) (by kernel_rfl) (by omega) (by omega)) <|
            .p (does_load (t := 27) (x := .tmp 47) (k := 2) (off := (0 + (((j : Nat) : Int)).toNat * 2)) (b := ⟨(h.flatMap ptc), 27, true, 2⟩) (v := .agg #[.int .i64 ((h.getD j (0, 0)).1), .int .i64 ((h.getD j (0, 0)).2)]) (by kernel_rfl) (by kernel_rfl) (by kernel_rfl) (ldV_pair (j := j) (by kernel_rfl) (by kernel_rfl) (by omega) (by omega))) <|
            .a 1 3 <| .p (does_c (turn_in ((h.getD i (0, 0)).1) ((h.getD i (0, 0)).2) ((h.getD j (0, 0)).1) ((h.getD j (0, 0)).2) (Sp.lim 1048576 x) (Sp.lim 1048576 y) (by omega) (by omega) (by omega) (by omega) (by omega) (by omega) (by omega) (by omega) (by omega) (by omega) (by omega) (by omega))) <|
            .a 1 3 <| .nil _ _) ?_
          refine aw_cd 64494 64495 (decide ((Sp.cmp (Sp.crs ((h.getD i (0, 0)).1) ((h.getD i (0, 0)).2) ((h.getD j (0, 0)).1) ((h.getD j (0, 0)).2) (Sp.lim 1048576 x) (Sp.lim 1048576 y)) 0) < 0)) (fun h5 => ?_) (fun h5 => ?_)
          · have h5p : (((Sp.cmp (Sp.crs ((h.getD i (0, 0)).1) ((h.getD i (0, 0)).2) ((h.getD j (0, 0)).1) ((h.getD j (0, 0)).2) (Sp.lim 1048576 x) (Sp.lim 1048576 y)) 0) < 0)) := by first | (simpa using h5) | (have h5q := h5; simp at h5q; omega) | (have h5q := bx1 h5; simp at h5q; omega)
            refine aw_p 128989 (
              .a 1 3 <| .nil _ _) ?_
            refine aw_rt ?_
            refine block_ret ?_
            refine then_ret ?_
            refine then_ret ?_
            refine block_ret ?_
            refine then_ret ?_
            exact en_ret [.bool false] (show (.bool false : Value) = (.bool (Sp.hasH h (Sp.lim 1048576 x) (Sp.lim 1048576 y))) from (congrArg Value.bool (show false = (Sp.hasH h (Sp.lim 1048576 x) (Sp.lim 1048576 y)) from by (first | exact (Sp.hasH_0 (by omega)).symm | exact (Sp.hasH_1 (by omega)).symm | exact (Sp.hasH_2 (by omega)).symm | exact (by rw [Sp.hasH_3 (by omega), ← hs, Sp.hasL_out hil hj (by assumption)]) | exact (by rw [Sp.hasH_3 (by omega), ← hs, Sp.hasL_end hge])))))
          · have h5p : ¬ (((Sp.cmp (Sp.crs ((h.getD i (0, 0)).1) ((h.getD i (0, 0)).2) ((h.getD j (0, 0)).1) ((h.getD j (0, 0)).2) (Sp.lim 1048576 x) (Sp.lim 1048576 y)) 0) < 0)) := by first | (simpa using h5) | (have h5q := h5; simp at h5q; omega) | (have h5q := bx2 h5; simp at h5q; omega)
            refine aw_sk ?_
            refine block_normal ?_
            refine then_normal ?_
            refine aw_p1 (
              .p (does_i (((i : Nat) : Int) + 1) (wrap_i64 (by omega) (by omega)) .i64) <| .a 1 3 <| .nil _ _) ?_
            refine then_normal ?_
            refine al_w [(3, .pointer (some ⟨1, 0, none⟩)), (4, .bool false), (5, .slice (some ⟨2, 0, none⟩) h.length 0), (33, .int .i64 ((h.length : Nat) : Int)), (34, .int .i64 (((i + 1) : Nat) : Int))] [(0, ⟨(ps.flatMap ptc), 27, true, 2⟩), (1, ⟨[.int .i64 (Sp.lim 1048576 x), .int .i64 (Sp.lim 1048576 y)], 27, true, 2⟩), (2, ⟨(h.flatMap ptc), 27, true, 2⟩)] ?_ (hc := (by simp [closedB, valsB, valB, List.all_eq_true, List.mem_flatMap, List.mem_range, List.mem_map, i64v, ptc, flat1]; try (intros; simp [valsB, valB, flat1]); try decide))
            exact ih1 (i + 1) (show ((i + 1) ≤ h.length) ∧ (Sp.hasL h (Sp.lim 1048576 x) (Sp.lim 1048576 y) (i + 1) = Sp.hasL h (Sp.lim 1048576 x) (Sp.lim 1048576 y) 0) from ⟨by omega, by (rw [← hs]; exact Sp.hasL_next hil hj (by assumption))⟩) (show h.length - (i + 1) < h.length - i from by omega)
        · have h4p : ¬ ((((i : Nat) : Int) < ((h.length : Nat) : Int))) := by first | (simpa using h4) | (have h4q := h4; simp at h4q; omega) | (have h4q := bx2 h4; simp at h4q; omega)
          have hge : ¬ i < h.length := by omega
          refine aw_ex 1 ?_
          refine then_exit ?_
          refine then_exit ?_
          refine block_exit ?_
          refine then_normal ?_
          refine aw_p 127 (
            .a 1 3 <| .nil _ _) ?_
          refine aw_rt ?_
          exact en_ret [.bool true] (show (.bool true : Value) = (.bool (Sp.hasH h (Sp.lim 1048576 x) (Sp.lim 1048576 y))) from (congrArg Value.bool (show true = (Sp.hasH h (Sp.lim 1048576 x) (Sp.lim 1048576 y)) from by (first | exact (Sp.hasH_0 (by omega)).symm | exact (Sp.hasH_1 (by omega)).symm | exact (Sp.hasH_2 (by omega)).symm | exact (by rw [Sp.hasH_3 (by omega), ← hs, Sp.hasL_out hil hj (by assumption)]) | exact (by rw [Sp.hasH_3 (by omega), ← hs, Sp.hasL_end hge])))))
end Go.Proofs.Ytomnkdlfmjdckaa.Am
