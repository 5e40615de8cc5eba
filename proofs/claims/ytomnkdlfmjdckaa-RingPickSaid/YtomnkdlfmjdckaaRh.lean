/-
  The walks of what a ring contains and of its area.
-/
import Derived.Test.YtomnkdlfmjdckaaProg
import Derived.Test.YtomnkdlfmjdckaaAm16
import Derived.Test.YtomnkdlfmjdckaaAm19
import Derived.Test.YtomnkdlfmjdckaaRg5
import Derived.Test.YtomnkdlfmjdckaaPt1
namespace Go.Proofs.Ytomnkdlfmjdckaa.Am
open Go Go.Proofs
set_option maxRecDepth 100000
set_option maxHeartbeats 4000000
set_option linter.unusedVariables false
set_option linter.unusedSimpArgs false

theorem has_own (ps : List (Int × Int)) (hz : ps.length ≤ 9223372036854775807) (x y : Int) :
    AC Try.prog 8 1 ([.slice (some ⟨0, 0, none⟩) ps.length 0, .agg #[.int .i64 x, .int .i64 y]]) [(0, ⟨(ps.flatMap ptc), 27, true, 2⟩)] (.int .i64 (Sp.hasF ps (Sp.lim 1048576 x) (Sp.lim 1048576 y) 0 (-1))) [(0, ⟨(ps.flatMap ptc), 27, true, 2⟩)] := by
  have qx := Sp.lim_bd (m := 1048576) (by decide) x; have qy := Sp.lim_bd (m := 1048576) (by decide) y
  refine ac_in Try.func8 (fun w0 W pin => ?_)
  refine aw_p 3 (
    .a 2 1 <| .nil _ _) ?_
  refine aw_p 7 (
    .a 1 2 <| .p (does_c (clamp_ok x y)) <| .a 1 2 <| .nil _ _) ?_
  refine aw_p 15 (
    .a 1 2 <| .nil _ _) ?_
  refine aw_sq 30 31 ?_
  refine aw_p 61 (
    .a 3 2 <| .nil _ _) ?_
  refine aw_bl 0 123 ?_
  refine aw_lp 247 ?_
  refine al_w [(0, .slice (some ⟨0, 0, none⟩) ps.length 0), (3, .pointer (some ⟨1, 0, none⟩)), (5, .int .i64 (-1)), (12, .int .i64 ((ps.length : Nat) : Int)), (13, .int .i64 ((0 : Nat) : Int))] [(0, ⟨(ps.flatMap ptc), 27, true, 2⟩), (1, ⟨[.int .i64 (Sp.lim 1048576 x), .int .i64 (Sp.lim 1048576 y)], 27, true, 2⟩)] ?_ (hc := (by simp [closedB, valsB, valB, List.all_eq_true, List.mem_flatMap, List.mem_range, List.mem_map, i64v, ptc, flat1]; try (intros; simp [valsB, valB, flat1]); try decide))
  refine al_ind (fun i : Nat × Int => (fun (i : Nat) (out : Int) => mkSt 1 [(0, .slice (some ⟨0, 0, none⟩) ps.length 0), (3, .pointer (some ⟨1, 0, none⟩)), (5, .int .i64 out), (12, .int .i64 ((ps.length : Nat) : Int)), (13, .int .i64 ((i : Nat) : Int))] [(0, ⟨(ps.flatMap ptc), 27, true, 2⟩), (1, ⟨[.int .i64 (Sp.lim 1048576 x), .int .i64 (Sp.lim 1048576 y)], 27, true, 2⟩)]) i.1 i.2) (fun i : Nat × Int => (fun (i : Nat) (out : Int) => (i ≤ ps.length) ∧ (-1 ≤ out ∧ out ≤ 1) ∧ (Sp.hasF ps (Sp.lim 1048576 x) (Sp.lim 1048576 y) i out = Sp.hasF ps (Sp.lim 1048576 x) (Sp.lim 1048576 y) 0 (-1))) i.1 i.2) (fun i : Nat × Int => (fun (i : Nat) (out : Int) => ps.length - i) i.1 i.2) (fun i hi1 ih1 => ?_) (0, (-1)) (show (0 ≤ ps.length) ∧ (-1 ≤ (-1) ∧ (-1) ≤ 1) ∧ (Sp.hasF ps (Sp.lim 1048576 x) (Sp.lim 1048576 y) 0 (-1) = Sp.hasF ps (Sp.lim 1048576 x) (Sp.lim 1048576 y) 0 (-1)) from ⟨by omega, by omega, by rfl⟩)
  obtain ⟨i, out⟩ := i
  have hi1' : (i ≤ ps.length) ∧ (-1 ≤ out ∧ out ≤ 1) ∧ (Sp.hasF ps (Sp.lim 1048576 x) (Sp.lim 1048576 y) i out = Sp.hasF ps (Sp.lim 1048576 x) (Sp.lim 1048576 y) 0 (-1)) := hi1
  obtain ⟨hi, ho, hh⟩ := hi1'
  show AL _ _ _ (mkSt 1 [(0, .slice (some ⟨0, 0, none⟩) ps.length 0), (3, .pointer (some ⟨1, 0, none⟩)), (5, .int .i64 out), (12, .int .i64 ((ps.length : Nat) : Int)), (13, .int .i64 ((i : Nat) : Int))] [(0, ⟨(ps.flatMap ptc), 27, true, 2⟩), (1, ⟨[.int .i64 (Sp.lim 1048576 x), .int .i64 (Sp.lim 1048576 y)], 27, true, 2⟩)]) _
  refine al_round ?_
  refine aw_p 495 (
    .a 1 2 <| .nil _ _) ?_
  refine aw_sq 990 991 ?_
  refine aw_cd 1980 1981 (decide (((i : Nat) : Int) < ((ps.length : Nat) : Int))) (fun h1 => ?_) (fun h1 => ?_)
  · have h1p : ((((i : Nat) : Int) < ((ps.length : Nat) : Int))) := by first | (simpa using h1) | (have h1q := h1; simp at h1q; omega) | (have h1q := bx1 h1; simp at h1q; omega)
    have hil : i < ps.length := by omega
    obtain ⟨j, hj⟩ : ∃ j, (i + 1) % ps.length = j := ⟨_, rfl⟩
    have hjl : j < ps.length := hj ▸ Nat.mod_lt _ (by omega)
    have bi1 := Sp.lim_bd (m := 1048576) (by decide) (ps.getD i (0, 0)).1; have bi2 := Sp.lim_bd (m := 1048576) (by decide) (ps.getD i (0, 0)).2; have bj1 := Sp.lim_bd (m := 1048576) (by decide) (ps.getD j (0, 0)).1; have bj2 := Sp.lim_bd (m := 1048576) (by decide) (ps.getD j (0, 0)).2
    refine aw_sk ?_
    refine then_normal ?_
    refine aw_sq 1982 1983 ?_
    refine aw_bl 1 3965 ?_
    refine aw_p 7931 (
      .a 2 2 <| .nil _ _) ?_
    refine aw_d 15863 (
      .a 2 2 <| .p (does_indexSlice (t := 24) (x := .tmp 16) (y := .tmp 17) (k := 0) (off := 0) (n := ps.length) (c := 0) (z := 2) (kd := .i64) (j := ((i : Nat) : Int)) (by kernel_rfl) (by kernel_rfl) (by kernel_rfl) (by kernel_rfl) (by kernel_rfl) (by omega) (by omega)) <|
      .p (does_load (t := 27) (x := .tmp 18) (k := 0) (off := (0 + (((i : Nat) : Int)).toNat * 2)) (b := ⟨(ps.flatMap ptc), 27, true, 2⟩) (v := .agg #[.int .i64 ((ps.getD i (0, 0)).1), .int .i64 ((ps.getD i (0, 0)).2)]) (by kernel_rfl) (by kernel_rfl) (by kernel_rfl) (ldV_pair (j := i) (by kernel_rfl) (by kernel_rfl) (by omega) (by omega))) <|
      .p (does_c (clamp_ok ((ps.getD i (0, 0)).1) ((ps.getD i (0, 0)).2))) <| .a 2 2 <| .p (does_i (((i : Nat) : Int) + 1) (wrap_i64 (by omega) (by omega)) .i64) <| .a 2 2 <|
      .p (does_int (n' := ((j : Nat) : Int)) (does_rem (t := 3) (t2 := 3) (x := .tmp 23) (y := .tmp 25) (k := .i64) (a := (((i : Nat) : Int) + 1)) (b := ((ps.length : Nat) : Int)) (by kernel_rfl) (by kernel_rfl) (by kernel_rfl) (by omega)) ((show (Int.tmod (((i : Nat) : Int) + 1) ((ps.length : Nat) : Int)) = ((j : Nat) : Int) from (by rw [← hj]; exact rfl)))) <|
      .p (does_indexSlice (t := 24) (x := .tmp 21) (y := .tmp 26) (k := 0) (off := 0) (n := ps.length) (c := 0) (z := 2) (kd := .i64) (j := ((j : Nat) : Int)) (by kernel_rfl) (by kernel_rfl) (by kernel_rfl) (by kernel_rfl) (by kernel_rfl) (by omega) (by omega)) <|
      .p (does_load (t := 27) (x := .tmp 27) (k := 0) (off := (0 + (((j : Nat) : Int)).toNat * 2)) (b := ⟨(ps.flatMap ptc), 27, true, 2⟩) (v := .agg #[.int .i64 ((ps.getD j (0, 0)).1), .int .i64 ((ps.getD j (0, 0)).2)]) (by kernel_rfl) (by kernel_rfl) (by kernel_rfl) (ldV_pair (j := j) (by kernel_rfl) (by kernel_rfl) (by omega) (by omega))) <|
      .p (does_c (clamp_ok ((ps.getD j (0, 0)).1) ((ps.getD j (0, 0)).2))) <| .a 4 2 <| .nil _ _) ?_
    refine aw_sq 31726 31727 ?_
    refine aw_p 63453 (
      .a 3 4 <|
      .p (does_c (on_in (Sp.lim 1048576 ((ps.getD i (0, 0)).1)) (Sp.lim 1048576 ((ps.getD i (0, 0)).2)) (Sp.lim 1048576 ((ps.getD j (0, 0)).1)) (Sp.lim 1048576 ((ps.getD j (0, 0)).2)) (Sp.lim 1048576 x) (Sp.lim 1048576 y) (by omega) (by omega) (by omega) (by omega) (by omega) (by omega) (by omega) (by omega) (by omega) (by omega) (by omega) (by omega))) <| .nil _ _) ?_
    refine aw_cd 126906 126907 (Sp.onb (Sp.lim 1048576 ((ps.getD i (0, 0)).1)) (Sp.lim 1048576 ((ps.getD i (0, 0)).2)) (Sp.lim 1048576 ((ps.getD j (0, 0)).1)) (Sp.lim 1048576 ((ps.getD j (0, 0)).2)) (Sp.lim 1048576 x) (Sp.lim 1048576 y)) (fun h2 => ?_) (fun h2 => ?_)
    · refine aw_p 253813 (
        .a 1 4 <| .nil _ _) ?_
      refine aw_rt ?_
      refine then_ret ?_
      refine block_ret ?_
      refine then_ret ?_
      refine then_ret ?_
      refine block_ret ?_
      refine then_ret ?_
      exact en_ret [.int .i64 0] (show (.int .i64 0 : Value) = (.int .i64 (Sp.hasF ps (Sp.lim 1048576 x) (Sp.lim 1048576 y) 0 (-1))) from (congrArg (Value.int .i64) (show 0 = (Sp.hasF ps (Sp.lim 1048576 x) (Sp.lim 1048576 y) 0 (-1)) from by (first | exact (by rw [← hh, Sp.hasF_on hil hj (by assumption)]) | exact (by rw [← hh, Sp.hasF_end hge])))))
    · refine aw_sk ?_
      refine then_normal ?_
      refine aw_sq 63454 63455 ?_
      refine aw_p 126909 (
        .a 5 4 <| .nil _ _) ?_
      refine aw_cd 253818 253819 (decide ((Sp.lim 1048576 ((ps.getD i (0, 0)).2)) > (Sp.lim 1048576 ((ps.getD j (0, 0)).2)))) (fun h3 => ?_) (fun h3 => ?_)
      · have h3p : (((Sp.lim 1048576 ((ps.getD i (0, 0)).2)) > (Sp.lim 1048576 ((ps.getD j (0, 0)).2)))) := by first | (simpa using h3) | (have h3q := h3; simp at h3q; omega) | (have h3q := bx1 h3; simp at h3q; omega)
        refine aw_p1 (
          .a 4 4 <| .nil _ _) ?_
        refine then_normal ?_
        rcases Bool.eq_false_or_eq_true (decide ((Sp.lim 1048576 ((ps.getD j (0, 0)).2)) < (Sp.lim 1048576 y))) with h4 | h4
        · have h4p : (((Sp.lim 1048576 ((ps.getD j (0, 0)).2)) < (Sp.lim 1048576 y))) := by first | (simpa using h4) | (have h4q := h4; simp at h4q; omega) | (have h4q := bx1 h4; simp at h4q; omega)
          rcases Bool.eq_false_or_eq_true (decide ((Sp.lim 1048576 y) ≤ (Sp.lim 1048576 ((ps.getD i (0, 0)).2)))) with h5 | h5
          · have h5p : (((Sp.lim 1048576 y) ≤ (Sp.lim 1048576 ((ps.getD i (0, 0)).2)))) := by first | (simpa using h5) | (have h5q := h5; simp at h5q; omega) | (have h5q := bx1 h5; simp at h5q; omega)
            refine aw_p 126911 (
              .a 4 4 <| .p (does_b true (h4)) <| .a 5 4 <| .p (does_b true (h5)) <| .a 5 4 <|
              .p (does_c (turn_in (Sp.lim 1048576 ((ps.getD j (0, 0)).1)) (Sp.lim 1048576 ((ps.getD j (0, 0)).2)) (Sp.lim 1048576 ((ps.getD i (0, 0)).1)) (Sp.lim 1048576 ((ps.getD i (0, 0)).2)) (Sp.lim 1048576 x) (Sp.lim 1048576 y) (by omega) (by omega) (by omega) (by omega) (by omega) (by omega) (by omega) (by omega) (by omega) (by omega) (by omega) (by omega))) <|
              .a 2 4 <| .nil _ _) ?_
            refine aw_cd 253822 253823 (decide ((Sp.cmp (Sp.crs (Sp.lim 1048576 ((ps.getD j (0, 0)).1)) (Sp.lim 1048576 ((ps.getD j (0, 0)).2)) (Sp.lim 1048576 ((ps.getD i (0, 0)).1)) (Sp.lim 1048576 ((ps.getD i (0, 0)).2)) (Sp.lim 1048576 x) (Sp.lim 1048576 y)) 0) > 0)) (fun h6 => ?_) (fun h6 => ?_)
            · have h6p : (((Sp.cmp (Sp.crs (Sp.lim 1048576 ((ps.getD j (0, 0)).1)) (Sp.lim 1048576 ((ps.getD j (0, 0)).2)) (Sp.lim 1048576 ((ps.getD i (0, 0)).1)) (Sp.lim 1048576 ((ps.getD i (0, 0)).2)) (Sp.lim 1048576 x) (Sp.lim 1048576 y)) 0) > 0)) := by first | (simpa using h6) | (have h6q := h6; simp at h6q; omega) | (have h6q := bx1 h6; simp at h6q; omega)
              refine aw_p1 (
                .a 1 4 <| .p (does_i (0 - out) (wrap_i64 (by omega) (by omega)) .i64) <| .a 1 4 <| .nil _ _) ?_
              refine block_normal ?_
              refine then_normal ?_
              refine aw_p1 (
                .p (does_i (((i : Nat) : Int) + 1) (wrap_i64 (by omega) (by omega)) .i64) <| .a 1 4 <| .nil _ _) ?_
              refine then_normal ?_
              refine al_w [(0, .slice (some ⟨0, 0, none⟩) ps.length 0), (3, .pointer (some ⟨1, 0, none⟩)), (5, .int .i64 (0 - out)), (12, .int .i64 ((ps.length : Nat) : Int)), (13, .int .i64 (((i + 1) : Nat) : Int))] [(0, ⟨(ps.flatMap ptc), 27, true, 2⟩), (1, ⟨[.int .i64 (Sp.lim 1048576 x), .int .i64 (Sp.lim 1048576 y)], 27, true, 2⟩)] ?_ (hc := (by simp [closedB, valsB, valB, List.all_eq_true, List.mem_flatMap, List.mem_range, List.mem_map, i64v, ptc, flat1]; try (intros; simp [valsB, valB, flat1]); try decide))
              exact ih1 ((i + 1), (0 - out)) (show ((i + 1) ≤ ps.length) ∧ (-1 ≤ (0 - out) ∧ (0 - out) ≤ 1) ∧ (Sp.hasF ps (Sp.lim 1048576 x) (Sp.lim 1048576 y) (i + 1) (0 - out) = Sp.hasF ps (Sp.lim 1048576 x) (Sp.lim 1048576 y) 0 (-1)) from ⟨by omega, by omega, by (rw [← hh]; first | exact Sp.hasF_no hil hj (by assumption) (Sp.crX_d1 (by assumption) (by assumption)) | exact Sp.hasF_no hil hj (by assumption) (Sp.crX_d2 (by assumption) (by assumption) (by assumption)) | exact Sp.hasF_no hil hj (by assumption) (Sp.crX_d3 (by assumption) (by assumption) (by assumption) (by assumption)) | exact Sp.hasF_cr hil hj (by assumption) (Sp.crX_d4 (by assumption) (by assumption) (by assumption) (by assumption)) | exact Sp.hasF_no hil hj (by assumption) (Sp.crX_u1 (by assumption) (by assumption)) | exact Sp.hasF_no hil hj (by assumption) (Sp.crX_u2 (by assumption) (by assumption) (by assumption)) | exact Sp.hasF_no hil hj (by assumption) (Sp.crX_u3 (by assumption) (by assumption) (by assumption) (by assumption)) | exact Sp.hasF_cr hil hj (by assumption) (Sp.crX_u4 (by assumption) (by assumption) (by assumption) (by assumption)))⟩) (show ps.length - (i + 1) < ps.length - i from by omega)
            · have h6p : ¬ (((Sp.cmp (Sp.crs (Sp.lim 1048576 ((ps.getD j (0, 0)).1)) (Sp.lim 1048576 ((ps.getD j (0, 0)).2)) (Sp.lim 1048576 ((ps.getD i (0, 0)).1)) (Sp.lim 1048576 ((ps.getD i (0, 0)).2)) (Sp.lim 1048576 x) (Sp.lim 1048576 y)) 0) > 0)) := by first | (simpa using h6) | (have h6q := h6; simp at h6q; omega) | (have h6q := bx2 h6; simp at h6q; omega)
              refine aw_sk ?_
              refine block_normal ?_
              refine then_normal ?_
              refine aw_p1 (
                .p (does_i (((i : Nat) : Int) + 1) (wrap_i64 (by omega) (by omega)) .i64) <| .a 1 4 <| .nil _ _) ?_
              refine then_normal ?_
              refine al_w [(0, .slice (some ⟨0, 0, none⟩) ps.length 0), (3, .pointer (some ⟨1, 0, none⟩)), (5, .int .i64 out), (12, .int .i64 ((ps.length : Nat) : Int)), (13, .int .i64 (((i + 1) : Nat) : Int))] [(0, ⟨(ps.flatMap ptc), 27, true, 2⟩), (1, ⟨[.int .i64 (Sp.lim 1048576 x), .int .i64 (Sp.lim 1048576 y)], 27, true, 2⟩)] ?_ (hc := (by simp [closedB, valsB, valB, List.all_eq_true, List.mem_flatMap, List.mem_range, List.mem_map, i64v, ptc, flat1]; try (intros; simp [valsB, valB, flat1]); try decide))
              exact ih1 ((i + 1), out) (show ((i + 1) ≤ ps.length) ∧ (-1 ≤ out ∧ out ≤ 1) ∧ (Sp.hasF ps (Sp.lim 1048576 x) (Sp.lim 1048576 y) (i + 1) out = Sp.hasF ps (Sp.lim 1048576 x) (Sp.lim 1048576 y) 0 (-1)) from ⟨by omega, by omega, by (rw [← hh]; first | exact Sp.hasF_no hil hj (by assumption) (Sp.crX_d1 (by assumption) (by assumption)) | exact Sp.hasF_no hil hj (by assumption) (Sp.crX_d2 (by assumption) (by assumption) (by assumption)) | exact Sp.hasF_no hil hj (by assumption) (Sp.crX_d3 (by assumption) (by assumption) (by assumption) (by assumption)) | exact Sp.hasF_cr hil hj (by assumption) (Sp.crX_d4 (by assumption) (by assumption) (by assumption) (by assumption)) | exact Sp.hasF_no hil hj (by assumption) (Sp.crX_u1 (by assumption) (by assumption)) | exact Sp.hasF_no hil hj (by assumption) (Sp.crX_u2 (by assumption) (by assumption) (by assumption)) | exact Sp.hasF_no hil hj (by assumption) (Sp.crX_u3 (by assumption) (by assumption) (by assumption) (by assumption)) | exact Sp.hasF_cr hil hj (by assumption) (Sp.crX_u4 (by assumption) (by assumption) (by assumption) (by assumption)))⟩) (show ps.length - (i + 1) < ps.length - i from by omega)
          · have h5p : ¬ (((Sp.lim 1048576 y) ≤ (Sp.lim 1048576 ((ps.getD i (0, 0)).2)))) := by first | (simpa using h5) | (have h5q := h5; simp at h5q; omega) | (have h5q := bx2 h5; simp at h5q; omega)
            refine aw_p 126911 (
              .a 4 4 <| .p (does_b true (h4)) <| .a 5 4 <| .p (does_b false (h5)) <| .a 8 4 <| .nil _ _) ?_
            refine aw_fl 253823 ?_
            refine aw_sk ?_
            refine block_normal ?_
            refine then_normal ?_
            refine aw_p1 (
              .p (does_i (((i : Nat) : Int) + 1) (wrap_i64 (by omega) (by omega)) .i64) <| .a 1 4 <| .nil _ _) ?_
            refine then_normal ?_
            refine al_w [(0, .slice (some ⟨0, 0, none⟩) ps.length 0), (3, .pointer (some ⟨1, 0, none⟩)), (5, .int .i64 out), (12, .int .i64 ((ps.length : Nat) : Int)), (13, .int .i64 (((i + 1) : Nat) : Int))] [(0, ⟨(ps.flatMap ptc), 27, true, 2⟩), (1, ⟨[.int .i64 (Sp.lim 1048576 x), .int .i64 (Sp.lim 1048576 y)], 27, true, 2⟩)] ?_ (hc := (by simp [closedB, valsB, valB, List.all_eq_true, List.mem_flatMap, List.mem_range, List.mem_map, i64v, ptc, flat1]; try (intros; simp [valsB, valB, flat1]); try decide))
            exact ih1 ((i + 1), out) (show ((i + 1) ≤ ps.length) ∧ (-1 ≤ out ∧ out ≤ 1) ∧ (Sp.hasF ps (Sp.lim 1048576 x) (Sp.lim 1048576 y) (i + 1) out = Sp.hasF ps (Sp.lim 1048576 x) (Sp.lim 1048576 y) 0 (-1)) from ⟨by omega, by omega, by (rw [← hh]; first | exact Sp.hasF_no hil hj (by assumption) (Sp.crX_d1 (by assumption) (by assumption)) | exact Sp.hasF_no hil hj (by assumption) (Sp.crX_d2 (by assumption) (by assumption) (by assumption)) | exact Sp.hasF_no hil hj (by assumption) (Sp.crX_d3 (by assumption) (by assumption) (by assumption) (by assumption)) | exact Sp.hasF_cr hil hj (by assumption) (Sp.crX_d4 (by assumption) (by assumption) (by assumption) (by assumption)) | exact Sp.hasF_no hil hj (by assumption) (Sp.crX_u1 (by assumption) (by assumption)) | exact Sp.hasF_no hil hj (by assumption) (Sp.crX_u2 (by assumption) (by assumption) (by assumption)) | exact Sp.hasF_no hil hj (by assumption) (Sp.crX_u3 (by assumption) (by assumption) (by assumption) (by assumption)) | exact Sp.hasF_cr hil hj (by assumption) (Sp.crX_u4 (by assumption) (by assumption) (by assumption) (by assumption)))⟩) (show ps.length - (i + 1) < ps.length - i from by omega)
        · have h4p : ¬ (((Sp.lim 1048576 ((ps.getD j (0, 0)).2)) < (Sp.lim 1048576 y))) := by first | (simpa using h4) | (have h4q := h4; simp at h4q; omega) | (have h4q := bx2 h4; simp at h4q; omega)
          refine aw_p 126911 (
            .a 4 4 <| .p (does_b false (h4)) <| .a 14 4 <| .nil _ _) ?_
          refine aw_fl 253823 ?_
          refine aw_sk ?_
          refine block_normal ?_
          refine then_normal ?_
          refine aw_p1 (
            .p (does_i (((i : Nat) : Int) + 1) (wrap_i64 (by omega) (by omega)) .i64) <| .a 1 4 <| .nil _ _) ?_
          refine then_normal ?_
          refine al_w [(0, .slice (some ⟨0, 0, none⟩) ps.length 0), (3, .pointer (some ⟨1, 0, none⟩)), (5, .int .i64 out), (12, .int .i64 ((ps.length : Nat) : Int)), (13, .int .i64 (((i + 1) : Nat) : Int))] [(0, ⟨(ps.flatMap ptc), 27, true, 2⟩), (1, ⟨[.int .i64 (Sp.lim 1048576 x), .int .i64 (Sp.lim 1048576 y)], 27, true, 2⟩)] ?_ (hc := (by simp [closedB, valsB, valB, List.all_eq_true, List.mem_flatMap, List.mem_range, List.mem_map, i64v, ptc, flat1]; try (intros; simp [valsB, valB, flat1]); try decide))
          exact ih1 ((i + 1), out) (show ((i + 1) ≤ ps.length) ∧ (-1 ≤ out ∧ out ≤ 1) ∧ (Sp.hasF ps (Sp.lim 1048576 x) (Sp.lim 1048576 y) (i + 1) out = Sp.hasF ps (Sp.lim 1048576 x) (Sp.lim 1048576 y) 0 (-1)) from ⟨by omega, by omega, by (rw [← hh]; first | exact Sp.hasF_no hil hj (by assumption) (Sp.crX_d1 (by assumption) (by assumption)) | exact Sp.hasF_no hil hj (by assumption) (Sp.crX_d2 (by assumption) (by assumption) (by assumption)) | exact Sp.hasF_no hil hj (by assumption) (Sp.crX_d3 (by assumption) (by assumption) (by assumption) (by assumption)) | exact Sp.hasF_cr hil hj (by assumption) (Sp.crX_d4 (by assumption) (by assumption) (by assumption) (by assumption)) | exact Sp.hasF_no hil hj (by assumption) (Sp.crX_u1 (by assumption) (by assumption)) | exact Sp.hasF_no hil hj (by assumption) (Sp.crX_u2 (by assumption) (by assumption) (by assumption)) | exact Sp.hasF_no hil hj (by assumption) (Sp.crX_u3 (by assumption) (by assumption) (by assumption) (by assumption)) | exact Sp.hasF_cr hil hj (by assumption) (Sp.crX_u4 (by assumption) (by assumption) (by assumption) (by assumption)))⟩) (show ps.length - (i + 1) < ps.length - i from by omega)
      · have h3p : ¬ (((Sp.lim 1048576 ((ps.getD i (0, 0)).2)) > (Sp.lim 1048576 ((ps.getD j (0, 0)).2)))) := by first | (simpa using h3) | (have h3q := h3; simp at h3q; omega) | (have h3q := bx2 h3; simp at h3q; omega)
        refine aw_sk ?_
        refine then_normal ?_
        rcases Bool.eq_false_or_eq_true (decide ((Sp.lim 1048576 ((ps.getD i (0, 0)).2)) < (Sp.lim 1048576 y))) with h7 | h7
        · have h7p : (((Sp.lim 1048576 ((ps.getD i (0, 0)).2)) < (Sp.lim 1048576 y))) := by first | (simpa using h7) | (have h7q := h7; simp at h7q; omega) | (have h7q := bx1 h7; simp at h7q; omega)
          rcases Bool.eq_false_or_eq_true (decide ((Sp.lim 1048576 y) ≤ (Sp.lim 1048576 ((ps.getD j (0, 0)).2)))) with h8 | h8
          · have h8p : (((Sp.lim 1048576 y) ≤ (Sp.lim 1048576 ((ps.getD j (0, 0)).2)))) := by first | (simpa using h8) | (have h8q := h8; simp at h8q; omega) | (have h8q := bx1 h8; simp at h8q; omega)
            refine aw_p 126911 (
              .a 4 4 <| .p (does_b true (h7)) <| .a 5 4 <| .p (does_b true (h8)) <| .a 5 4 <|
              .p (does_c (turn_in (Sp.lim 1048576 ((ps.getD i (0, 0)).1)) (Sp.lim 1048576 ((ps.getD i (0, 0)).2)) (Sp.lim 1048576 ((ps.getD j (0, 0)).1)) (Sp.lim 1048576 ((ps.getD j (0, 0)).2)) (Sp.lim 1048576 x) (Sp.lim 1048576 y) (by omega) (by omega) (by omega) (by omega) (by omega) (by omega) (by omega) (by omega) (by omega) (by omega) (by omega) (by omega))) <|
              .a 2 4 <| .nil _ _) ?_
            refine aw_cd 253822 253823 (decide ((Sp.cmp (Sp.crs (Sp.lim 1048576 ((ps.getD i (0, 0)).1)) (Sp.lim 1048576 ((ps.getD i (0, 0)).2)) (Sp.lim 1048576 ((ps.getD j (0, 0)).1)) (Sp.lim 1048576 ((ps.getD j (0, 0)).2)) (Sp.lim 1048576 x) (Sp.lim 1048576 y)) 0) > 0)) (fun h9 => ?_) (fun h9 => ?_)
            · have h9p : (((Sp.cmp (Sp.crs (Sp.lim 1048576 ((ps.getD i (0, 0)).1)) (Sp.lim 1048576 ((ps.getD i (0, 0)).2)) (Sp.lim 1048576 ((ps.getD j (0, 0)).1)) (Sp.lim 1048576 ((ps.getD j (0, 0)).2)) (Sp.lim 1048576 x) (Sp.lim 1048576 y)) 0) > 0)) := by first | (simpa using h9) | (have h9q := h9; simp at h9q; omega) | (have h9q := bx1 h9; simp at h9q; omega)
              refine aw_p1 (
                .a 1 4 <| .p (does_i (0 - out) (wrap_i64 (by omega) (by omega)) .i64) <| .a 1 4 <| .nil _ _) ?_
              refine block_normal ?_
              refine then_normal ?_
              refine aw_p1 (
                .p (does_i (((i : Nat) : Int) + 1) (wrap_i64 (by omega) (by omega)) .i64) <| .a 1 4 <| .nil _ _) ?_
              refine then_normal ?_
              refine al_w [(0, .slice (some ⟨0, 0, none⟩) ps.length 0), (3, .pointer (some ⟨1, 0, none⟩)), (5, .int .i64 (0 - out)), (12, .int .i64 ((ps.length : Nat) : Int)), (13, .int .i64 (((i + 1) : Nat) : Int))] [(0, ⟨(ps.flatMap ptc), 27, true, 2⟩), (1, ⟨[.int .i64 (Sp.lim 1048576 x), .int .i64 (Sp.lim 1048576 y)], 27, true, 2⟩)] ?_ (hc := (by simp [closedB, valsB, valB, List.all_eq_true, List.mem_flatMap, List.mem_range, List.mem_map, i64v, ptc, flat1]; try (intros; simp [valsB, valB, flat1]); try decide))
              exact ih1 ((i + 1), (0 - out)) (show ((i + 1) ≤ ps.length) ∧ (-1 ≤ (0 - out) ∧ (0 - out) ≤ 1) ∧ (Sp.hasF ps (Sp.lim 1048576 x) (Sp.lim 1048576 y) (i + 1) (0 - out) = Sp.hasF ps (Sp.lim 1048576 x) (Sp.lim 1048576 y) 0 (-1)) from ⟨by omega, by omega, by (rw [← hh]; first | exact Sp.hasF_no hil hj (by assumption) (Sp.crX_d1 (by assumption) (by assumption)) | exact Sp.hasF_no hil hj (by assumption) (Sp.crX_d2 (by assumption) (by assumption) (by assumption)) | exact Sp.hasF_no hil hj (by assumption) (Sp.crX_d3 (by assumption) (by assumption) (by assumption) (by assumption)) | exact Sp.hasF_cr hil hj (by assumption) (Sp.crX_d4 (by assumption) (by assumption) (by assumption) (by assumption)) | exact Sp.hasF_no hil hj (by assumption) (Sp.crX_u1 (by assumption) (by assumption)) | exact Sp.hasF_no hil hj (by assumption) (Sp.crX_u2 (by assumption) (by assumption) (by assumption)) | exact Sp.hasF_no hil hj (by assumption) (Sp.crX_u3 (by assumption) (by assumption) (by assumption) (by assumption)) | exact Sp.hasF_cr hil hj (by assumption) (Sp.crX_u4 (by assumption) (by assumption) (by assumption) (by assumption)))⟩) (show ps.length - (i + 1) < ps.length - i from by omega)
            · have h9p : ¬ (((Sp.cmp (Sp.crs (Sp.lim 1048576 ((ps.getD i (0, 0)).1)) (Sp.lim 1048576 ((ps.getD i (0, 0)).2)) (Sp.lim 1048576 ((ps.getD j (0, 0)).1)) (Sp.lim 1048576 ((ps.getD j (0, 0)).2)) (Sp.lim 1048576 x) (Sp.lim 1048576 y)) 0) > 0)) := by first | (simpa using h9) | (have h9q := h9; simp at h9q; omega) | (have h9q := bx2 h9; simp at h9q; omega)
              refine aw_sk ?_
              refine block_normal ?_
              refine then_normal ?_
              refine aw_p1 (
                .p (does_i (((i : Nat) : Int) + 1) (wrap_i64 (by omega) (by omega)) .i64) <| .a 1 4 <| .nil _ _) ?_
              refine then_normal ?_
              refine al_w [(0, .slice (some ⟨0, 0, none⟩) ps.length 0), (3, .pointer (some ⟨1, 0, none⟩)), (5, .int .i64 out), (12, .int .i64 ((ps.length : Nat) : Int)), (13, .int .i64 (((i + 1) : Nat) : Int))] [(0, ⟨(ps.flatMap ptc), 27, true, 2⟩), (1, ⟨[.int .i64 (Sp.lim 1048576 x), .int .i64 (Sp.lim 1048576 y)], 27, true, 2⟩)] ?_ (hc := (by simp [closedB, valsB, valB, List.all_eq_true, List.mem_flatMap, List.mem_range, List.mem_map, i64v, ptc, flat1]; try (intros; simp [valsB, valB, flat1]); try decide))
              exact ih1 ((i + 1), out) (show ((i + 1) ≤ ps.length) ∧ (-1 ≤ out ∧ out ≤ 1) ∧ (Sp.hasF ps (Sp.lim 1048576 x) (Sp.lim 1048576 y) (i + 1) out = Sp.hasF ps (Sp.lim 1048576 x) (Sp.lim 1048576 y) 0 (-1)) from ⟨by omega, by omega, by (rw [← hh]; first | exact Sp.hasF_no hil hj (by assumption) (Sp.crX_d1 (by assumption) (by assumption)) | exact Sp.hasF_no hil hj (by assumption) (Sp.crX_d2 (by assumption) (by assumption) (by assumption)) | exact Sp.hasF_no hil hj (by assumption) (Sp.crX_d3 (by assumption) (by assumption) (by assumption) (by assumption)) | exact Sp.hasF_cr hil hj (by assumption) (Sp.crX_d4 (by assumption) (by assumption) (by assumption) (by assumption)) | exact Sp.hasF_no hil hj (by assumption) (Sp.crX_u1 (by assumption) (by assumption)) | exact Sp.hasF_no hil hj (by assumption) (Sp.crX_u2 (by assumption) (by assumption) (by assumption)) | exact Sp.hasF_no hil hj (by assumption) (Sp.crX_u3 (by assumption) (by assumption) (by assumption) (by assumption)) | exact Sp.hasF_cr hil hj (by assumption) (Sp.crX_u4 (by assumption) (by assumption) (by assumption) (by assumption)))⟩) (show ps.length - (i + 1) < ps.length - i from by omega)
          · have h8p : ¬ (((Sp.lim 1048576 y) ≤ (Sp.lim 1048576 ((ps.getD j (0, 0)).2)))) := by first | (simpa using h8) | (have h8q := h8; simp at h8q; omega) | (have h8q := bx2 h8; simp at h8q; omega)
            refine aw_p 126911 (
              .a 4 4 <| .p (does_b true (h7)) <| .a 5 4 <| .p (does_b false (h8)) <| .a 8 4 <| .nil _ _) ?_
            refine aw_fl 253823 ?_
            refine aw_sk ?_
            refine block_normal ?_
            refine then_normal ?_
            refine aw_p1 (
              .p (does_i (((i : Nat) : Int) + 1) (wrap_i64 (by omega) (by omega)) .i64) <| .a 1 4 <| .nil _ _) ?_
            refine then_normal ?_
            refine al_w [(0, .slice (some ⟨0, 0, none⟩) ps.length 0), (3, .pointer (some ⟨1, 0, none⟩)), (5, .int .i64 out), (12, .int .i64 ((ps.length : Nat) : Int)), (13, .int .i64 (((i + 1) : Nat) : Int))] [(0, ⟨(ps.flatMap ptc), 27, true, 2⟩), (1, ⟨[.int .i64 (Sp.lim 1048576 x), .int .i64 (Sp.lim 1048576 y)], 27, true, 2⟩)] ?_ (hc := (by simp [closedB, valsB, valB, List.all_eq_true, List.mem_flatMap, List.mem_range, List.mem_map, i64v, ptc, flat1]; try (intros; simp [valsB, valB, flat1]); try decide))
            exact ih1 ((i + 1), out) (show ((i + 1) ≤ ps.length) ∧ (-1 ≤ out ∧ out ≤ 1) ∧ (Sp.hasF ps (Sp.lim 1048576 x) (Sp.lim 1048576 y) (i + 1) out = Sp.hasF ps (Sp.lim 1048576 x) (Sp.lim 1048576 y) 0 (-1)) from ⟨by omega, by omega, by (rw [← hh]; first | exact Sp.hasF_no hil hj (by assumption) (Sp.crX_d1 (by assumption) (by assumption)) | exact Sp.hasF_no hil hj (by assumption) (Sp.crX_d2 (by assumption) (by assumption) (by assumption)) | exact Sp.hasF_no hil hj (by assumption) (Sp.crX_d3 (by assumption) (by assumption) (by assumption) (by assumption)) | exact Sp.hasF_cr hil hj (by assumption) (Sp.crX_d4 (by assumption) (by assumption) (by assumption) (by assumption)) | exact Sp.hasF_no hil hj (by assumption) (Sp.crX_u1 (by assumption) (by assumption)) | exact Sp.hasF_no hil hj (by assumption) (Sp.crX_u2 (by assumption) (by assumption) (by assumption)) | exact Sp.hasF_no hil hj (by assumption) (Sp.crX_u3 (by assumption) (by assumption) (by assumption) (by assumption)) | exact Sp.hasF_cr hil hj (by assumption) (Sp.crX_u4 (by assumption) (by assumption) (by assumption) (by assumption)))⟩) (show ps.length - (i + 1) < ps.length - i from by omega)
        · have h7p : ¬ (((Sp.lim 1048576 ((ps.getD i (0, 0)).2)) < (Sp.lim 1048576 y))) := by first | (simpa using h7) | (have h7q := h7; simp at h7q; omega) | (have h7q := bx2 h7; simp at h7q; omega)
          refine aw_p 126911 (
            .a 4 4 <| .p (does_b false (h7)) <| .a 14 4 <| .nil _ _) ?_
          refine aw_fl 253823 ?_
          refine aw_sk ?_
          refine block_normal ?_
          refine then_normal ?_
          refine aw_p1 (
            .p (does_i (((i : Nat) : Int) + 1) (wrap_i64 (by omega) (by omega)) .i64) <| .a 1 4 <| .nil _ _) ?_
          refine then_normal ?_
          refine al_w [(0, .slice (some ⟨0, 0, none⟩) ps.length 0), (3, .pointer (some ⟨1, 0, none⟩)), (5, .int .i64 out), (12, .int .i64 ((ps.length : Nat) : Int)), (13, .int .i64 (((i + 1) : Nat) : Int))] [(0, ⟨(ps.flatMap ptc), 27, true, 2⟩), (1, ⟨[.int .i64 (Sp.lim 1048576 x), .int .i64 (Sp.lim 1048576 y)], 27, true, 2⟩)] ?_ (hc := (by simp [closedB, valsB, valB, List.all_eq_true, List.mem_flatMap, List.mem_range, List.mem_map, i64v, ptc, flat1]; try (intros; simp [valsB, valB, flat1]); try decide))
          exact ih1 ((i + 1), out) (show ((i + 1) ≤ ps.length) ∧ (-1 ≤ out ∧ out ≤ 1) ∧ (Sp.hasF ps (Sp.lim 1048576 x) (Sp.lim 1048576 y) (i + 1) out = Sp.hasF ps (Sp.lim 1048576 x) (Sp.lim 1048576 y) 0 (-1)) from ⟨by omega, by omega, by (rw [← hh]; first | exact Sp.hasF_no hil hj (by assumption) (Sp.crX_d1 (by assumption) (by assumption)) | exact Sp.hasF_no hil hj (by assumption) (Sp.crX_d2 (by assumption) (by assumption) (by assumption)) | exact Sp.hasF_no hil hj (by assumption) (Sp.crX_d3 (by assumption) (by assumption) (by assumption) (by assumption)) | exact Sp.hasF_cr hil hj (by assumption) (Sp.crX_d4 (by assumption) (by assumption) (by assumption) (by assumption)) | exact Sp.hasF_no hil hj (by assumption) (Sp.crX_u1 (by assumption) (by assumption)) | exact Sp.hasF_no hil hj (by assumption) (Sp.crX_u2 (by assumption) (by assumption) (by assumption)) | exact Sp.hasF_no hil hj (by assumption) (Sp.crX_u3 (by assumption) (by assumption) (by assumption) (by assumption)) | exact Sp.hasF_cr hil hj (by assumption) (Sp.crX_u4 (by assumption) (by assumption) (by assumption) (by assumption)))⟩) (show ps.length - (i + 1) < ps.length - i from by omega)
  · have h1p : ¬ ((((i : Nat) : Int) < ((ps.length : Nat) : Int))) := by first | (simpa using h1) | (have h1q := h1; simp at h1q; omega) | (have h1q := bx2 h1; simp at h1q; omega)
    have hge : ¬ i < ps.length := by omega
    refine aw_ex 0 ?_
    refine then_exit ?_
    refine then_exit ?_
    refine block_exit ?_
    refine then_normal ?_
    refine aw_p 63 (
      .a 2 2 <| .nil _ _) ?_
    refine aw_rt ?_
    exact en_ret [.int .i64 out] (show (.int .i64 out : Value) = (.int .i64 (Sp.hasF ps (Sp.lim 1048576 x) (Sp.lim 1048576 y) 0 (-1))) from (congrArg (Value.int .i64) (show out = (Sp.hasF ps (Sp.lim 1048576 x) (Sp.lim 1048576 y) 0 (-1)) from by (first | exact (by rw [← hh, Sp.hasF_on hil hj (by assumption)]) | exact (by rw [← hh, Sp.hasF_end hge])))))

theorem twice_own (ps : List (Int × Int)) (hz : ps.length ≤ 9223372036854775807) :
    AC Try.prog 12 1 ([.slice (some ⟨0, 0, none⟩) ps.length 0]) [(0, ⟨(ps.flatMap ptc), 27, true, 2⟩)] (.int .i64 (Sp.twF ps 1 0)) [(0, ⟨(ps.flatMap ptc), 27, true, 2⟩)] := by
  refine ac_in Try.func12 (fun w0 W pin => ?_)
  refine aw_p 3 (
    .a 1 1 <| .nil _ _) ?_
  refine aw_p 7 (
    .a 1 1 <| .nil _ _) ?_
  refine aw_sq 14 15 ?_
  refine aw_p 29 (
    .a 1 1 <| .nil _ _) ?_
  refine aw_bl 0 59 ?_
  refine aw_lp 119 ?_
  refine al_w [(0, .slice (some ⟨0, 0, none⟩) ps.length 0), (3, .int .i64 0), (4, .int .i64 ((1 + 1 : Nat) : Int))] [(0, ⟨(ps.flatMap ptc), 27, true, 2⟩)] ?_ (hc := (by simp [closedB, valsB, valB, List.all_eq_true, List.mem_flatMap, List.mem_range, List.mem_map, i64v, ptc, flat1]; try (intros; simp [valsB, valB, flat1]); try decide))
  refine al_ind (fun i : Nat × Int => (fun (k : Nat) (s : Int) => mkSt 1 [(0, .slice (some ⟨0, 0, none⟩) ps.length 0), (3, .int .i64 s), (4, .int .i64 ((k + 1 : Nat) : Int))] [(0, ⟨(ps.flatMap ptc), 27, true, 2⟩)]) i.1 i.2) (fun i : Nat × Int => (fun (k : Nat) (s : Int) => (1 ≤ k ∧ (k ≤ ps.length ∨ k = 1)) ∧ (Sp.twF ps k s = Sp.twF ps 1 0)) i.1 i.2) (fun i : Nat × Int => (fun (k : Nat) (s : Int) => ps.length - k) i.1 i.2) (fun i hi1 ih1 => ?_) (1, 0) (show (1 ≤ 1 ∧ (1 ≤ ps.length ∨ 1 = 1)) ∧ (Sp.twF ps 1 0 = Sp.twF ps 1 0) from ⟨by omega, by rfl⟩)
  obtain ⟨k, s⟩ := i
  have hi1' : (1 ≤ k ∧ (k ≤ ps.length ∨ k = 1)) ∧ (Sp.twF ps k s = Sp.twF ps 1 0) := hi1
  obtain ⟨hi, hh⟩ := hi1'
  show AL _ _ _ (mkSt 1 [(0, .slice (some ⟨0, 0, none⟩) ps.length 0), (3, .int .i64 s), (4, .int .i64 ((k + 1 : Nat) : Int))] [(0, ⟨(ps.flatMap ptc), 27, true, 2⟩)]) _
  refine al_round ?_
  refine aw_sq 238 239 ?_
  refine aw_p 477 (
    .a 4 1 <| .nil _ _) ?_
  refine aw_cd 954 955 (decide (((k + 1 : Nat) : Int) < ((ps.length : Nat) : Int))) (fun h1 => ?_) (fun h1 => ?_)
  · have h1p : ((((k + 1 : Nat) : Int) < ((ps.length : Nat) : Int))) := by first | (simpa using h1) | (have h1q := h1; simp at h1q; omega) | (have h1q := bx1 h1; simp at h1q; omega)
    have hil : k + 1 < ps.length := by omega
    refine aw_sk ?_
    refine then_normal ?_
    refine aw_sq 478 479 ?_
    refine aw_bl 1 957 ?_
    refine aw_d1 (
      .a 2 1 <| .p (does_indexSlice (t := 24) (x := .tmp 12) (y := .const (.int .i64 0)) (k := 0) (off := 0) (n := ps.length) (c := 0) (z := 2) (kd := .i64) (j := 0) (by kernel_rfl) (by kernel_rfl) (by kernel_rfl) (by kernel_rfl) (by kernel_rfl) (by omega) (by omega)) <|
      .p (does_load (t := 27) (x := .tmp 13) (k := 0) (off := 0) (b := ⟨(ps.flatMap ptc), 27, true, 2⟩) (v := .agg #[.int .i64 ((ps.getD 0 (0, 0)).1), .int .i64 ((ps.getD 0 (0, 0)).2)]) (by kernel_rfl) (by kernel_rfl) (by kernel_rfl) (ldV_pair (j := 0) (by kernel_rfl) (by kernel_rfl) (by omega) (by omega))) <|
      .a 2 1 <| .p (does_i ((k : Nat) : Int) ((show (IntKind.wrap .i64 (((k + 1 : Nat) : Int) - 1)) = ((k : Nat) : Int) from ((wrap_i64 (by omega) (by omega)).trans (by omega)))) .i64) <|
      .p (does_indexSlice (t := 24) (x := .tmp 15) (y := .tmp 17) (k := 0) (off := 0) (n := ps.length) (c := 0) (z := 2) (kd := .i64) (j := ((k : Nat) : Int)) (by kernel_rfl) (by kernel_rfl) (by kernel_rfl) (by kernel_rfl) (by kernel_rfl) (by omega) (by omega)) <|
      .p (does_load (t := 27) (x := .tmp 18) (k := 0) (off := (0 + (((k : Nat) : Int)).toNat * 2)) (b := ⟨(ps.flatMap ptc), 27, true, 2⟩) (v := .agg #[.int .i64 ((ps.getD k (0, 0)).1), .int .i64 ((ps.getD k (0, 0)).2)]) (by kernel_rfl) (by kernel_rfl) (by kernel_rfl) (ldV_pair (j := k) (by kernel_rfl) (by kernel_rfl) (by omega) (by omega))) <|
      .a 2 1 <| .p (does_indexSlice (t := 24) (x := .tmp 20) (y := .tmp 21) (k := 0) (off := 0) (n := ps.length) (c := 0) (z := 2) (kd := .i64) (j := ((k + 1 : Nat) : Int)) (by kernel_rfl) (by kernel_rfl) (by kernel_rfl) (by kernel_rfl) (by kernel_rfl) (by omega) (by omega)) <|
      .p (does_load (t := 27) (x := .tmp 22) (k := 0) (off := (0 + (((k + 1 : Nat) : Int)).toNat * 2)) (b := ⟨(ps.flatMap ptc), 27, true, 2⟩) (v := .agg #[.int .i64 ((ps.getD (k + 1) (0, 0)).1), .int .i64 ((ps.getD (k + 1) (0, 0)).2)]) (by kernel_rfl) (by kernel_rfl) (by kernel_rfl) (ldV_pair (j := (k + 1)) (by kernel_rfl) (by kernel_rfl) (by omega) (by omega))) <|
      .p (does_c (cross_ok ((ps.getD 0 (0, 0)).1) ((ps.getD 0 (0, 0)).2) ((ps.getD k (0, 0)).1) ((ps.getD k (0, 0)).2) ((ps.getD (k + 1) (0, 0)).1) ((ps.getD (k + 1) (0, 0)).2))) <| .a 2 1 <| .nil _ _) ?_
    refine block_normal ?_
    refine then_normal ?_
    refine aw_p1 (
      .a 1 1 <| .p (does_i (((k + 1 : Nat) : Int) + 1) (wrap_i64 (by omega) (by omega)) .i64) <| .a 1 1 <| .nil _ _) ?_
    refine then_normal ?_
    refine al_w [(0, .slice (some ⟨0, 0, none⟩) ps.length 0), (3, .int .i64 (IntKind.wrap .i64 (s + (Sp.crs (Sp.lim 1048576 ((ps.getD 0 (0, 0)).1)) (Sp.lim 1048576 ((ps.getD 0 (0, 0)).2)) (Sp.lim 1048576 ((ps.getD k (0, 0)).1)) (Sp.lim 1048576 ((ps.getD k (0, 0)).2)) (Sp.lim 1048576 ((ps.getD (k + 1) (0, 0)).1)) (Sp.lim 1048576 ((ps.getD (k + 1) (0, 0)).2)))))), (4, .int .i64 (((k + 1) + 1 : Nat) : Int))] [(0, ⟨(ps.flatMap ptc), 27, true, 2⟩)] ?_ (hc := (by simp [closedB, valsB, valB, List.all_eq_true, List.mem_flatMap, List.mem_range, List.mem_map, i64v, ptc, flat1]; try (intros; simp [valsB, valB, flat1]); try decide))
    exact ih1 ((k + 1), (IntKind.wrap .i64 (s + (Sp.crs (Sp.lim 1048576 ((ps.getD 0 (0, 0)).1)) (Sp.lim 1048576 ((ps.getD 0 (0, 0)).2)) (Sp.lim 1048576 ((ps.getD k (0, 0)).1)) (Sp.lim 1048576 ((ps.getD k (0, 0)).2)) (Sp.lim 1048576 ((ps.getD (k + 1) (0, 0)).1)) (Sp.lim 1048576 ((ps.getD (k + 1) (0, 0)).2)))))) (show (1 ≤ (k + 1) ∧ ((k + 1) ≤ ps.length ∨ (k + 1) = 1)) ∧ (Sp.twF ps (k + 1) (IntKind.wrap .i64 (s + (Sp.crs (Sp.lim 1048576 ((ps.getD 0 (0, 0)).1)) (Sp.lim 1048576 ((ps.getD 0 (0, 0)).2)) (Sp.lim 1048576 ((ps.getD k (0, 0)).1)) (Sp.lim 1048576 ((ps.getD k (0, 0)).2)) (Sp.lim 1048576 ((ps.getD (k + 1) (0, 0)).1)) (Sp.lim 1048576 ((ps.getD (k + 1) (0, 0)).2))))) = Sp.twF ps 1 0) from ⟨by omega, by (rw [← hh]; exact Sp.twF_step hil)⟩) (show ps.length - (k + 1) < ps.length - k from by omega)
  · have h1p : ¬ ((((k + 1 : Nat) : Int) < ((ps.length : Nat) : Int))) := by first | (simpa using h1) | (have h1q := h1; simp at h1q; omega) | (have h1q := bx2 h1; simp at h1q; omega)
    have hge : ¬ k + 1 < ps.length := by omega
    refine aw_ex 0 ?_
    refine then_exit ?_
    refine then_exit ?_
    refine block_exit ?_
    refine then_normal ?_
    refine aw_p 31 (
      .a 2 1 <| .nil _ _) ?_
    refine aw_rt ?_
    exact en_ret [.int .i64 s] (show (.int .i64 s : Value) = (.int .i64 (Sp.twF ps 1 0)) from (congrArg (Value.int .i64) (show s = (Sp.twF ps 1 0) from by (exact (by rw [← hh, Sp.twF_end hge])))))

theorem twice_ro (ps : List (Int × Int)) (hz : ps.length ≤ 9223372036854775807) :
    AC Try.prog 12 1 ([.slice (some ⟨0, 0, none⟩) ps.length 0]) [(0, ⟨(ps.flatMap ptc), 27, false, 2⟩)] (.int .i64 (Sp.twF ps 1 0)) [] := by
  refine ac_in Try.func12 (fun w0 W pin => ?_)
  refine aw_p 3 (
    .a 1 1 <| .nil _ _) ?_
  refine aw_p 7 (
    .a 1 1 <| .nil _ _) ?_
  refine aw_sq 14 15 ?_
  refine aw_p 29 (
    .a 1 1 <| .nil _ _) ?_
  refine aw_bl 0 59 ?_
  refine aw_lp 119 ?_
  refine al_w [(0, .slice (some ⟨0, 0, none⟩) ps.length 0), (3, .int .i64 0), (4, .int .i64 ((1 + 1 : Nat) : Int))] [(0, ⟨(ps.flatMap ptc), 27, false, 2⟩)] ?_ (hc := (by simp [closedB, valsB, valB, List.all_eq_true, List.mem_flatMap, List.mem_range, List.mem_map, i64v, ptc, flat1]; try (intros; simp [valsB, valB, flat1]); try decide))
  refine al_ind (fun i : Nat × Int => (fun (k : Nat) (s : Int) => mkSt 1 [(0, .slice (some ⟨0, 0, none⟩) ps.length 0), (3, .int .i64 s), (4, .int .i64 ((k + 1 : Nat) : Int))] [(0, ⟨(ps.flatMap ptc), 27, false, 2⟩)]) i.1 i.2) (fun i : Nat × Int => (fun (k : Nat) (s : Int) => (1 ≤ k ∧ (k ≤ ps.length ∨ k = 1)) ∧ (Sp.twF ps k s = Sp.twF ps 1 0)) i.1 i.2) (fun i : Nat × Int => (fun (k : Nat) (s : Int) => ps.length - k) i.1 i.2) (fun i hi1 ih1 => ?_) (1, 0) (show (1 ≤ 1 ∧ (1 ≤ ps.length ∨ 1 = 1)) ∧ (Sp.twF ps 1 0 = Sp.twF ps 1 0) from ⟨by omega, by rfl⟩)
  obtain ⟨k, s⟩ := i
  have hi1' : (1 ≤ k ∧ (k ≤ ps.length ∨ k = 1)) ∧ (Sp.twF ps k s = Sp.twF ps 1 0) := hi1
  obtain ⟨hi, hh⟩ := hi1'
  show AL _ _ _ (mkSt 1 [(0, .slice (some ⟨0, 0, none⟩) ps.length 0), (3, .int .i64 s), (4, .int .i64 ((k + 1 : Nat) : Int))] [(0, ⟨(ps.flatMap ptc), 27, false, 2⟩)]) _
  refine al_round ?_
  refine aw_sq 238 239 ?_
  refine aw_p 477 (
    .a 4 1 <| .nil _ _) ?_
  refine aw_cd 954 955 (decide (((k + 1 : Nat) : Int) < ((ps.length : Nat) : Int))) (fun h1 => ?_) (fun h1 => ?_)
  · have h1p : ((((k + 1 : Nat) : Int) < ((ps.length : Nat) : Int))) := by first | (simpa using h1) | (have h1q := h1; simp at h1q; omega) | (have h1q := bx1 h1; simp at h1q; omega)
    have hil : k + 1 < ps.length := by omega
    refine aw_sk ?_
    refine then_normal ?_
    refine aw_sq 478 479 ?_
    refine aw_bl 1 957 ?_
    refine aw_d1 (
      .a 2 1 <| .p (does_indexSlice (t := 24) (x := .tmp 12) (y := .const (.int .i64 0)) (k := 0) (off := 0) (n := ps.length) (c := 0) (z := 2) (kd := .i64) (j := 0) (by kernel_rfl) (by kernel_rfl) (by kernel_rfl) (by kernel_rfl) (by kernel_rfl) (by omega) (by omega)) <|
      .p (does_load (t := 27) (x := .tmp 13) (k := 0) (off := 0) (b := ⟨(ps.flatMap ptc), 27, false, 2⟩) (v := .agg #[.int .i64 ((ps.getD 0 (0, 0)).1), .int .i64 ((ps.getD 0 (0, 0)).2)]) (by kernel_rfl) (by kernel_rfl) (by kernel_rfl) (ldV_pair (j := 0) (by kernel_rfl) (by kernel_rfl) (by omega) (by omega))) <|
      .a 2 1 <| .p (does_i ((k : Nat) : Int) ((show (IntKind.wrap .i64 (((k + 1 : Nat) : Int) - 1)) = ((k : Nat) : Int) from ((wrap_i64 (by omega) (by omega)).trans (by omega)))) .i64) <|
      .p (does_indexSlice (t := 24) (x := .tmp 15) (y := .tmp 17) (k := 0) (off := 0) (n := ps.length) (c := 0) (z := 2) (kd := .i64) (j := ((k : Nat) : Int)) (by kernel_rfl) (by kernel_rfl) (by kernel_rfl) (by kernel_rfl) (by kernel_rfl) (by omega) (by omega)) <|
      .p (does_load (t := 27) (x := .tmp 18) (k := 0) (off := (0 + (((k : Nat) : Int)).toNat * 2)) (b := ⟨(ps.flatMap ptc), 27, false, 2⟩) (v := .agg #[.int .i64 ((ps.getD k (0, 0)).1), .int .i64 ((ps.getD k (0, 0)).2)]) (by kernel_rfl) (by kernel_rfl) (by kernel_rfl) (ldV_pair (j := k) (by kernel_rfl) (by kernel_rfl) (by omega) (by omega))) <|
      .a 2 1 <| .p (does_indexSlice (t := 24) (x := .tmp 20) (y := .tmp 21) (k := 0) (off := 0) (n := ps.length) (c := 0) (z := 2) (kd := .i64) (j := ((k + 1 : Nat) : Int)) (by kernel_rfl) (by kernel_rfl) (by kernel_rfl) (by kernel_rfl) (by kernel_rfl) (by omega) (by omega)) <|
      .p (does_load (t := 27) (x := .tmp 22) (k := 0) (off := (0 + (((k + 1 : Nat) : Int)).toNat * 2)) (b := ⟨(ps.flatMap ptc), 27, false, 2⟩) (v := .agg #[.int .i64 ((ps.getD (k + 1) (0, 0)).1), .int .i64 ((ps.getD (k + 1) (0, 0)).2)]) (by kernel_rfl) (by kernel_rfl) (by kernel_rfl) (ldV_pair (j := (k + 1)) (by kernel_rfl) (by kernel_rfl) (by omega) (by omega))) <|
      .p (does_c (cross_ok ((ps.getD 0 (0, 0)).1) ((ps.getD 0 (0, 0)).2) ((ps.getD k (0, 0)).1) ((ps.getD k (0, 0)).2) ((ps.getD (k + 1) (0, 0)).1) ((ps.getD (k + 1) (0, 0)).2))) <| .a 2 1 <| .nil _ _) ?_
    refine block_normal ?_
    refine then_normal ?_
    refine aw_p1 (
      .a 1 1 <| .p (does_i (((k + 1 : Nat) : Int) + 1) (wrap_i64 (by omega) (by omega)) .i64) <| .a 1 1 <| .nil _ _) ?_
    refine then_normal ?_
    refine al_w [(0, .slice (some ⟨0, 0, none⟩) ps.length 0), (3, .int .i64 (IntKind.wrap .i64 (s + (Sp.crs (Sp.lim 1048576 ((ps.getD 0 (0, 0)).1)) (Sp.lim 1048576 ((ps.getD 0 (0, 0)).2)) (Sp.lim 1048576 ((ps.getD k (0, 0)).1)) (Sp.lim 1048576 ((ps.getD k (0, 0)).2)) (Sp.lim 1048576 ((ps.getD (k + 1) (0, 0)).1)) (Sp.lim 1048576 ((ps.getD (k + 1) (0, 0)).2)))))), (4, .int .i64 (((k + 1) + 1 : Nat) : Int))] [(0, ⟨(ps.flatMap ptc), 27, false, 2⟩)] ?_ (hc := (by simp [closedB, valsB, valB, List.all_eq_true, List.mem_flatMap, List.mem_range, List.mem_map, i64v, ptc, flat1]; try (intros; simp [valsB, valB, flat1]); try decide))
    exact ih1 ((k + 1), (IntKind.wrap .i64 (s + (Sp.crs (Sp.lim 1048576 ((ps.getD 0 (0, 0)).1)) (Sp.lim 1048576 ((ps.getD 0 (0, 0)).2)) (Sp.lim 1048576 ((ps.getD k (0, 0)).1)) (Sp.lim 1048576 ((ps.getD k (0, 0)).2)) (Sp.lim 1048576 ((ps.getD (k + 1) (0, 0)).1)) (Sp.lim 1048576 ((ps.getD (k + 1) (0, 0)).2)))))) (show (1 ≤ (k + 1) ∧ ((k + 1) ≤ ps.length ∨ (k + 1) = 1)) ∧ (Sp.twF ps (k + 1) (IntKind.wrap .i64 (s + (Sp.crs (Sp.lim 1048576 ((ps.getD 0 (0, 0)).1)) (Sp.lim 1048576 ((ps.getD 0 (0, 0)).2)) (Sp.lim 1048576 ((ps.getD k (0, 0)).1)) (Sp.lim 1048576 ((ps.getD k (0, 0)).2)) (Sp.lim 1048576 ((ps.getD (k + 1) (0, 0)).1)) (Sp.lim 1048576 ((ps.getD (k + 1) (0, 0)).2))))) = Sp.twF ps 1 0) from ⟨by omega, by (rw [← hh]; exact Sp.twF_step hil)⟩) (show ps.length - (k + 1) < ps.length - k from by omega)
  · have h1p : ¬ ((((k + 1 : Nat) : Int) < ((ps.length : Nat) : Int))) := by first | (simpa using h1) | (have h1q := h1; simp at h1q; omega) | (have h1q := bx2 h1; simp at h1q; omega)
    have hge : ¬ k + 1 < ps.length := by omega
    refine aw_ex 0 ?_
    refine then_exit ?_
    refine then_exit ?_
    refine block_exit ?_
    refine then_normal ?_
    refine aw_p 31 (
      .a 2 1 <| .nil _ _) ?_
    refine aw_rt ?_
    exact en_ret [.int .i64 s] (show (.int .i64 s : Value) = (.int .i64 (Sp.twF ps 1 0)) from (congrArg (Value.int .i64) (show s = (Sp.twF ps 1 0) from by (exact (by rw [← hh, Sp.twF_end hge])))))

theorem hasn_own (ps : List (Int × Int)) (N : Nat) (hN : ps.length = N) (hz : N ≤ 9223372036854775807) (x y : Int) : AC Try.prog 8 1 [.slice (some ⟨0, 0, none⟩) N 0, .agg #[.int .i64 x, .int .i64 y]] [(0, ⟨(ps.flatMap ptc), 27, true, 2⟩)] (.int .i64 (Sp.hasF ps (Sp.lim 1048576 x) (Sp.lim 1048576 y) 0 (-1))) [(0, ⟨(ps.flatMap ptc), 27, true, 2⟩)] := by
  subst hN
  exact has_own ps hz x y
theorem twicen_own (ps : List (Int × Int)) (N : Nat) (hN : ps.length = N) (hz : N ≤ 9223372036854775807) : AC Try.prog 12 1 [.slice (some ⟨0, 0, none⟩) N 0] [(0, ⟨(ps.flatMap ptc), 27, true, 2⟩)] (.int .i64 (Sp.twF ps 1 0)) [(0, ⟨(ps.flatMap ptc), 27, true, 2⟩)] := by
  subst hN
  exact twice_own ps hz
theorem twicen_ro (ps : List (Int × Int)) (N : Nat) (hN : ps.length = N) (hz : N ≤ 9223372036854775807) : AC Try.prog 12 1 [.slice (some ⟨0, 0, none⟩) N 0] [(0, ⟨(ps.flatMap ptc), 27, false, 2⟩)] (.int .i64 (Sp.twF ps 1 0)) [] := by
  subst hN
  exact twice_ro ps hz

end Go.Proofs.Ytomnkdlfmjdckaa.Am
