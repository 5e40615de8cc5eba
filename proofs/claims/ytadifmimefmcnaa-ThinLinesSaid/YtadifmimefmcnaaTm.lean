/-
  The walk of what is kept between two points.
-/
import Derived.Test.YtadifmimefmcnaaProg
import Derived.Test.YtadifmimefmcnaaAm16
import Derived.Test.YtadifmimefmcnaaTf
import Derived.Test.YtadifmimefmcnaaAm22
namespace Go.Proofs.Ytadifmimefmcnaa.Am
open Go Go.Proofs
set_option maxRecDepth 100000
set_option maxHeartbeats 4000000
set_option linter.unusedVariables false
set_option linter.unusedSimpArgs false

theorem mark_nil (ps : List (Int × Int)) (hf : Sp.Few 1048576 ps) (hz : ps.length ≤ 8796093021952) (tol : Int) (f t : Nat) (kp : List Bool) (hk : kp.length = ps.length) (hft : f < t ∧ t < ps.length) (hs : Sp.scn ps tol f t (t - (f + 1)) = 0) :
    AC Try.prog 57 2 ([.slice (some ⟨0, 0, none⟩) ps.length 0, .slice (some ⟨1, 0, none⟩) ps.length 0, .int .i64 ((f : Nat) : Int), .int .i64 ((t : Nat) : Int), .int .i64 tol]) [(0, ⟨(ps.flatMap ptc), 29, true, 2⟩), (1, ⟨(kp.map boolv), 4, true, 1⟩)] (.tuple #[]) [(0, ⟨(ps.flatMap ptc), 29, true, 2⟩), (1, ⟨(kp.map boolv), 4, true, 1⟩)] := by
  have ff := hf f; have ft := hf t
  refine ac_in Try.func57 (fun w0 W pin => ?_)
  refine aw_p 3 (
    .a 1 2 <| .nil _ _) ?_
  refine aw_sq 6 7 ?_
  refine aw_p 13 (
    .a 1 2 <| .p (does_i (((f : Nat) : Int) + 1) (wrap_i64 (by omega) (by omega)) .i64) <| .a 1 2 <| .nil _ _) ?_
  refine aw_bl 0 27 ?_
  refine aw_lp 55 ?_
  refine al_w [(0, .slice (some ⟨0, 0, none⟩) ps.length 0), (1, .slice (some ⟨1, 0, none⟩) ps.length 0), (2, .int .i64 ((f : Nat) : Int)), (3, .int .i64 ((t : Nat) : Int)), (4, .int .i64 tol), (10, .int .i64 (((0 : Nat) : Int) - 1)), (11, .int .i64 (((f + 1) : Nat) : Int))] [(0, ⟨(ps.flatMap ptc), 29, true, 2⟩), (1, ⟨(kp.map boolv), 4, true, 1⟩)] ?_ (hc := (by simp [closedB, valsB, valB, List.all_eq_true, List.mem_flatMap, List.mem_range, List.mem_map, i64v, ptc, boolv, flat1]; try (intros; simp [valsB, valB, flat1]); try decide))
  refine al_ind (fun i : Nat × Nat => (fun (e : Nat) (b : Nat) => mkSt 2 [(0, .slice (some ⟨0, 0, none⟩) ps.length 0), (1, .slice (some ⟨1, 0, none⟩) ps.length 0), (2, .int .i64 ((f : Nat) : Int)), (3, .int .i64 ((t : Nat) : Int)), (4, .int .i64 tol), (10, .int .i64 (((b : Nat) : Int) - 1)), (11, .int .i64 ((e : Nat) : Int))] [(0, ⟨(ps.flatMap ptc), 29, true, 2⟩), (1, ⟨(kp.map boolv), 4, true, 1⟩)]) i.1 i.2) (fun i : Nat × Nat => (fun (e : Nat) (b : Nat) => (f + 1 ≤ e ∧ e ≤ t) ∧ (Sp.scn ps tol f t (e - (f + 1)) = b) ∧ (b ≤ e)) i.1 i.2) (fun i : Nat × Nat => (fun (e : Nat) (b : Nat) => t - e) i.1 i.2) (fun i hi1 ih1 => ?_) ((f + 1), 0) (show (f + 1 ≤ (f + 1) ∧ (f + 1) ≤ t) ∧ (Sp.scn ps tol f t ((f + 1) - (f + 1)) = 0) ∧ (0 ≤ (f + 1)) from ⟨by omega, by (rw [Nat.sub_self]; rfl), by omega⟩)
  obtain ⟨e, b⟩ := i
  have hi1' : (f + 1 ≤ e ∧ e ≤ t) ∧ (Sp.scn ps tol f t (e - (f + 1)) = b) ∧ (b ≤ e) := hi1
  obtain ⟨he, hb, hl⟩ := hi1'
  show AL _ _ _ (mkSt 2 [(0, .slice (some ⟨0, 0, none⟩) ps.length 0), (1, .slice (some ⟨1, 0, none⟩) ps.length 0), (2, .int .i64 ((f : Nat) : Int)), (3, .int .i64 ((t : Nat) : Int)), (4, .int .i64 tol), (10, .int .i64 (((b : Nat) : Int) - 1)), (11, .int .i64 ((e : Nat) : Int))] [(0, ⟨(ps.flatMap ptc), 29, true, 2⟩), (1, ⟨(kp.map boolv), 4, true, 1⟩)]) _
  refine al_round ?_
  refine aw_sq 110 111 ?_
  refine aw_p 221 (
    .a 3 2 <| .nil _ _) ?_
  refine aw_cd 442 443 (decide (((e : Nat) : Int) < ((t : Nat) : Int))) (fun h1 => ?_) (fun h1 => ?_)
  · have h1p : ((((e : Nat) : Int) < ((t : Nat) : Int))) := by first | (simpa using h1) | (have h1q := h1; simp at h1q; omega) | (have h1q := bx1 h1; simp at h1q; omega)
    have fe := hf e
    refine aw_sk ?_
    refine then_normal ?_
    refine aw_sq 222 223 ?_
    refine aw_bl 1 445 ?_
    rcases Bool.eq_false_or_eq_true (!(Sp.wthn ((ps.getD e (0, 0)).1) ((ps.getD e (0, 0)).2) ((ps.getD f (0, 0)).1) ((ps.getD f (0, 0)).2) ((ps.getD t (0, 0)).1) ((ps.getD t (0, 0)).2) (Sp.mx tol 0))) with h2 | h2
    · rcases Bool.eq_false_or_eq_true (decide ((((b : Nat) : Int) - 1) < 0)) with h3 | h3
      · have h3p : (((((b : Nat) : Int) - 1) < 0)) := by first | (simpa using h3) | (have h3q := h3; simp at h3q; omega) | (have h3q := bx1 h3; simp at h3q; omega)
        refine aw_d 891 (
          .a 2 2 <| .p (does_indexSlice (t := 24) (x := .tmp 19) (y := .tmp 20) (k := 0) (off := 0) (n := ps.length) (c := 0) (z := 2) (kd := .i64) (j := ((e : Nat) : Int)) (by kernel_rfl) (by kernel_rfl) (by kernel_rfl) (by kernel_rfl) (by kernel_rfl) (by omega) (by omega)) <|
          .p (does_load (t := 29) (x := .tmp 21) (k := 0) (off := (0 + (((e : Nat) : Int)).toNat * 2)) (b := ⟨(ps.flatMap ptc), 29, true, 2⟩) (v := .agg #[.int .i64 ((ps.getD e (0, 0)).1), .int .i64 ((ps.getD e (0, 0)).2)]) (by kernel_rfl) (by kernel_rfl) (by kernel_rfl) (ldV_pair (j := e) (by kernel_rfl) (by kernel_rfl) (by omega) (by omega))) <|
          .a 2 2 <| .p (does_indexSlice (t := 24) (x := .tmp 23) (y := .tmp 24) (k := 0) (off := 0) (n := ps.length) (c := 0) (z := 2) (kd := .i64) (j := ((f : Nat) : Int)) (by kernel_rfl) (by kernel_rfl) (by kernel_rfl) (by kernel_rfl) (by kernel_rfl) (by omega) (by omega)) <|
          .p (does_load (t := 29) (x := .tmp 25) (k := 0) (off := (0 + (((f : Nat) : Int)).toNat * 2)) (b := ⟨(ps.flatMap ptc), 29, true, 2⟩) (v := .agg #[.int .i64 ((ps.getD f (0, 0)).1), .int .i64 ((ps.getD f (0, 0)).2)]) (by kernel_rfl) (by kernel_rfl) (by kernel_rfl) (ldV_pair (j := f) (by kernel_rfl) (by kernel_rfl) (by omega) (by omega))) <|
          .a 2 2 <| .p (does_indexSlice (t := 24) (x := .tmp 27) (y := .tmp 28) (k := 0) (off := 0) (n := ps.length) (c := 0) (z := 2) (kd := .i64) (j := ((t : Nat) : Int)) (by kernel_rfl) (by kernel_rfl) (by kernel_rfl) (by kernel_rfl) (by kernel_rfl) (by omega) (by omega)) <|
          .p (does_load (t := 29) (x := .tmp 29) (k := 0) (off := (0 + (((t : Nat) : Int)).toNat * 2)) (b := ⟨(ps.flatMap ptc), 29, true, 2⟩) (v := .agg #[.int .i64 ((ps.getD t (0, 0)).1), .int .i64 ((ps.getD t (0, 0)).2)]) (by kernel_rfl) (by kernel_rfl) (by kernel_rfl) (ldV_pair (j := t) (by kernel_rfl) (by kernel_rfl) (by omega) (by omega))) <|
          .a 2 2 <|
          .p (does_c (within_in ((ps.getD e (0, 0)).1) ((ps.getD e (0, 0)).2) ((ps.getD f (0, 0)).1) ((ps.getD f (0, 0)).2) ((ps.getD t (0, 0)).1) ((ps.getD t (0, 0)).2) (Sp.mx tol 0) (by omega) (by omega) (by omega) (by omega) (by omega) (by omega) (by omega) (by omega) (by omega) (by omega) (by omega) (by omega))) <|
          .p (does_b true (h2)) <| .a 2 2 <| .p (does_b true (h3)) <| .a 20 2 <| .nil _ _) ?_
        refine aw_tr 1782 ?_
        refine aw_p1 (
          .a 1 2 <| .p (does_i (((e + 1 : Nat) : Int) - 1) ((show ((e : Nat) : Int) = (((e + 1 : Nat) : Int) - 1) from (by omega))) .i64) <| .nil _ _) ?_
        refine block_normal ?_
        refine then_normal ?_
        refine aw_p1 (
          .a 1 2 <| .p (does_i (((e : Nat) : Int) + 1) (wrap_i64 (by omega) (by omega)) .i64) <| .a 1 2 <| .nil _ _) ?_
        refine then_normal ?_
        refine al_w [(0, .slice (some ⟨0, 0, none⟩) ps.length 0), (1, .slice (some ⟨1, 0, none⟩) ps.length 0), (2, .int .i64 ((f : Nat) : Int)), (3, .int .i64 ((t : Nat) : Int)), (4, .int .i64 tol), (10, .int .i64 ((((e + 1) : Nat) : Int) - 1)), (11, .int .i64 (((e + 1) : Nat) : Int))] [(0, ⟨(ps.flatMap ptc), 29, true, 2⟩), (1, ⟨(kp.map boolv), 4, true, 1⟩)] ?_ (hc := (by simp [closedB, valsB, valB, List.all_eq_true, List.mem_flatMap, List.mem_range, List.mem_map, i64v, ptc, boolv, flat1]; try (intros; simp [valsB, valB, flat1]); try decide))
        exact ih1 ((e + 1), (e + 1)) (show (f + 1 ≤ (e + 1) ∧ (e + 1) ≤ t) ∧ (Sp.scn ps tol f t ((e + 1) - (f + 1)) = (e + 1)) ∧ ((e + 1) ≤ (e + 1)) from ⟨by omega, by (first | exact Sp.scn_near (by omega) hb (by first | assumption | exact Sp.nbf (by assumption)) | exact Sp.scn_first (by omega) hb (by first | assumption | exact Sp.nbt (by assumption)) (by omega) | exact Sp.scn_far (by omega) hb (by first | assumption | exact Sp.nbt (by assumption)) (by assumption) | exact Sp.scn_keep (by omega) hb (by omega) (by assumption)), by omega⟩) (show t - (e + 1) < t - e from by omega)
      · have h3p : ¬ (((((b : Nat) : Int) - 1) < 0)) := by first | (simpa using h3) | (have h3q := h3; simp at h3q; omega) | (have h3q := bx2 h3; simp at h3q; omega)
        have fb := hf (b - 1)
        refine aw_d 891 (
          .a 2 2 <| .p (does_indexSlice (t := 24) (x := .tmp 19) (y := .tmp 20) (k := 0) (off := 0) (n := ps.length) (c := 0) (z := 2) (kd := .i64) (j := ((e : Nat) : Int)) (by kernel_rfl) (by kernel_rfl) (by kernel_rfl) (by kernel_rfl) (by kernel_rfl) (by omega) (by omega)) <|
          .p (does_load (t := 29) (x := .tmp 21) (k := 0) (off := (0 + (((e : Nat) : Int)).toNat * 2)) (b := ⟨(ps.flatMap ptc), 29, true, 2⟩) (v := .agg #[.int .i64 ((ps.getD e (0, 0)).1), .int .i64 ((ps.getD e (0, 0)).2)]) (by kernel_rfl) (by kernel_rfl) (by kernel_rfl) (ldV_pair (j := e) (by kernel_rfl) (by kernel_rfl) (by omega) (by omega))) <|
          .a 2 2 <| .p (does_indexSlice (t := 24) (x := .tmp 23) (y := .tmp 24) (k := 0) (off := 0) (n := ps.length) (c := 0) (z := 2) (kd := .i64) (j := ((f : Nat) : Int)) (by kernel_rfl) (by kernel_rfl) (by kernel_rfl) (by kernel_rfl) (by kernel_rfl) (by omega) (by omega)) <|
          .p (does_load (t := 29) (x := .tmp 25) (k := 0) (off := (0 + (((f : Nat) : Int)).toNat * 2)) (b := ⟨(ps.flatMap ptc), 29, true, 2⟩) (v := .agg #[.int .i64 ((ps.getD f (0, 0)).1), .int .i64 ((ps.getD f (0, 0)).2)]) (by kernel_rfl) (by kernel_rfl) (by kernel_rfl) (ldV_pair (j := f) (by kernel_rfl) (by kernel_rfl) (by omega) (by omega))) <|
          .a 2 2 <| .p (does_indexSlice (t := 24) (x := .tmp 27) (y := .tmp 28) (k := 0) (off := 0) (n := ps.length) (c := 0) (z := 2) (kd := .i64) (j := ((t : Nat) : Int)) (by kernel_rfl) (by kernel_rfl) (by kernel_rfl) (by kernel_rfl) (by kernel_rfl) (by omega) (by omega)) <|
          .p (does_load (t := 29) (x := .tmp 29) (k := 0) (off := (0 + (((t : Nat) : Int)).toNat * 2)) (b := ⟨(ps.flatMap ptc), 29, true, 2⟩) (v := .agg #[.int .i64 ((ps.getD t (0, 0)).1), .int .i64 ((ps.getD t (0, 0)).2)]) (by kernel_rfl) (by kernel_rfl) (by kernel_rfl) (ldV_pair (j := t) (by kernel_rfl) (by kernel_rfl) (by omega) (by omega))) <|
          .a 2 2 <|
          .p (does_c (within_in ((ps.getD e (0, 0)).1) ((ps.getD e (0, 0)).2) ((ps.getD f (0, 0)).1) ((ps.getD f (0, 0)).2) ((ps.getD t (0, 0)).1) ((ps.getD t (0, 0)).2) (Sp.mx tol 0) (by omega) (by omega) (by omega) (by omega) (by omega) (by omega) (by omega) (by omega) (by omega) (by omega) (by omega) (by omega))) <|
          .p (does_b true (h2)) <| .a 2 2 <| .p (does_b false (h3)) <| .a 3 2 <|
          .p (does_indexSlice (t := 24) (x := .tmp 39) (y := .tmp 40) (k := 0) (off := 0) (n := ps.length) (c := 0) (z := 2) (kd := .i64) (j := ((e : Nat) : Int)) (by kernel_rfl) (by kernel_rfl) (by kernel_rfl) (by kernel_rfl) (by kernel_rfl) (by omega) (by omega)) <|
          .p (does_load (t := 29) (x := .tmp 41) (k := 0) (off := (0 + (((e : Nat) : Int)).toNat * 2)) (b := ⟨(ps.flatMap ptc), 29, true, 2⟩) (v := .agg #[.int .i64 ((ps.getD e (0, 0)).1), .int .i64 ((ps.getD e (0, 0)).2)]) (by kernel_rfl) (by kernel_rfl) (by kernel_rfl) (ldV_pair (j := e) (by kernel_rfl) (by kernel_rfl) (by omega) (by omega))) <|
          .a 1 2 <| .p (does_i ((b - 1 : Nat) : Int) ((show (((b : Nat) : Int) - 1) = ((b - 1 : Nat) : Int) from (by omega))) .i64) <|
          .p (does_indexSlice (t := 24) (x := .tmp 43) (y := .tmp 44) (k := 0) (off := 0) (n := ps.length) (c := 0) (z := 2) (kd := .i64) (j := ((b - 1 : Nat) : Int)) (by kernel_rfl) (by kernel_rfl) (by kernel_rfl) (by kernel_rfl) (by kernel_rfl) (by omega) (by omega)) <|
          .p (does_load (t := 29) (x := .tmp 45) (k := 0) (off := (0 + (((b - 1 : Nat) : Int)).toNat * 2)) (b := ⟨(ps.flatMap ptc), 29, true, 2⟩) (v := .agg #[.int .i64 ((ps.getD (b - 1) (0, 0)).1), .int .i64 ((ps.getD (b - 1) (0, 0)).2)]) (by kernel_rfl) (by kernel_rfl) (by kernel_rfl) (ldV_pair (j := (b - 1)) (by kernel_rfl) (by kernel_rfl) (by omega) (by omega))) <|
          .a 2 2 <| .p (does_indexSlice (t := 24) (x := .tmp 47) (y := .tmp 48) (k := 0) (off := 0) (n := ps.length) (c := 0) (z := 2) (kd := .i64) (j := ((f : Nat) : Int)) (by kernel_rfl) (by kernel_rfl) (by kernel_rfl) (by kernel_rfl) (by kernel_rfl) (by omega) (by omega)) <|
          .p (does_load (t := 29) (x := .tmp 49) (k := 0) (off := (0 + (((f : Nat) : Int)).toNat * 2)) (b := ⟨(ps.flatMap ptc), 29, true, 2⟩) (v := .agg #[.int .i64 ((ps.getD f (0, 0)).1), .int .i64 ((ps.getD f (0, 0)).2)]) (by kernel_rfl) (by kernel_rfl) (by kernel_rfl) (ldV_pair (j := f) (by kernel_rfl) (by kernel_rfl) (by omega) (by omega))) <|
          .a 2 2 <| .p (does_indexSlice (t := 24) (x := .tmp 51) (y := .tmp 52) (k := 0) (off := 0) (n := ps.length) (c := 0) (z := 2) (kd := .i64) (j := ((t : Nat) : Int)) (by kernel_rfl) (by kernel_rfl) (by kernel_rfl) (by kernel_rfl) (by kernel_rfl) (by omega) (by omega)) <|
          .p (does_load (t := 29) (x := .tmp 53) (k := 0) (off := (0 + (((t : Nat) : Int)).toNat * 2)) (b := ⟨(ps.flatMap ptc), 29, true, 2⟩) (v := .agg #[.int .i64 ((ps.getD t (0, 0)).1), .int .i64 ((ps.getD t (0, 0)).2)]) (by kernel_rfl) (by kernel_rfl) (by kernel_rfl) (ldV_pair (j := t) (by kernel_rfl) (by kernel_rfl) (by omega) (by omega))) <|
          .p (does_c (farther_ok ((ps.getD e (0, 0)).1) ((ps.getD e (0, 0)).2) ((ps.getD (b - 1) (0, 0)).1) ((ps.getD (b - 1) (0, 0)).2) ((ps.getD f (0, 0)).1) ((ps.getD f (0, 0)).2) ((ps.getD t (0, 0)).1) ((ps.getD t (0, 0)).2) (by omega) (by omega) (by omega) (by omega) (by omega) (by omega) (by omega) (by omega) (by omega) (by omega) (by omega) (by omega) (by omega) (by omega) (by omega) (by omega))) <|
          .a 2 2 <| .nil _ _) ?_
        refine aw_cd 1782 1783 (Sp.farB ((ps.getD e (0, 0)).1) ((ps.getD e (0, 0)).2) ((ps.getD (b - 1) (0, 0)).1) ((ps.getD (b - 1) (0, 0)).2) ((ps.getD f (0, 0)).1) ((ps.getD f (0, 0)).2) ((ps.getD t (0, 0)).1) ((ps.getD t (0, 0)).2)) (fun h4 => ?_) (fun h4 => ?_)
        · refine aw_p1 (
            .a 1 2 <| .p (does_i (((e + 1 : Nat) : Int) - 1) ((show ((e : Nat) : Int) = (((e + 1 : Nat) : Int) - 1) from (by omega))) .i64) <| .nil _ _) ?_
          refine block_normal ?_
          refine then_normal ?_
          refine aw_p1 (
            .a 1 2 <| .p (does_i (((e : Nat) : Int) + 1) (wrap_i64 (by omega) (by omega)) .i64) <| .a 1 2 <| .nil _ _) ?_
          refine then_normal ?_
          refine al_w [(0, .slice (some ⟨0, 0, none⟩) ps.length 0), (1, .slice (some ⟨1, 0, none⟩) ps.length 0), (2, .int .i64 ((f : Nat) : Int)), (3, .int .i64 ((t : Nat) : Int)), (4, .int .i64 tol), (10, .int .i64 ((((e + 1) : Nat) : Int) - 1)), (11, .int .i64 (((e + 1) : Nat) : Int))] [(0, ⟨(ps.flatMap ptc), 29, true, 2⟩), (1, ⟨(kp.map boolv), 4, true, 1⟩)] ?_ (hc := (by simp [closedB, valsB, valB, List.all_eq_true, List.mem_flatMap, List.mem_range, List.mem_map, i64v, ptc, boolv, flat1]; try (intros; simp [valsB, valB, flat1]); try decide))
          exact ih1 ((e + 1), (e + 1)) (show (f + 1 ≤ (e + 1) ∧ (e + 1) ≤ t) ∧ (Sp.scn ps tol f t ((e + 1) - (f + 1)) = (e + 1)) ∧ ((e + 1) ≤ (e + 1)) from ⟨by omega, by (first | exact Sp.scn_near (by omega) hb (by first | assumption | exact Sp.nbf (by assumption)) | exact Sp.scn_first (by omega) hb (by first | assumption | exact Sp.nbt (by assumption)) (by omega) | exact Sp.scn_far (by omega) hb (by first | assumption | exact Sp.nbt (by assumption)) (by assumption) | exact Sp.scn_keep (by omega) hb (by omega) (by assumption)), by omega⟩) (show t - (e + 1) < t - e from by omega)
        · refine aw_sk ?_
          refine block_normal ?_
          refine then_normal ?_
          refine aw_p1 (
            .a 1 2 <| .p (does_i (((e : Nat) : Int) + 1) (wrap_i64 (by omega) (by omega)) .i64) <| .a 1 2 <| .nil _ _) ?_
          refine then_normal ?_
          refine al_w [(0, .slice (some ⟨0, 0, none⟩) ps.length 0), (1, .slice (some ⟨1, 0, none⟩) ps.length 0), (2, .int .i64 ((f : Nat) : Int)), (3, .int .i64 ((t : Nat) : Int)), (4, .int .i64 tol), (10, .int .i64 (((b : Nat) : Int) - 1)), (11, .int .i64 (((e + 1) : Nat) : Int))] [(0, ⟨(ps.flatMap ptc), 29, true, 2⟩), (1, ⟨(kp.map boolv), 4, true, 1⟩)] ?_ (hc := (by simp [closedB, valsB, valB, List.all_eq_true, List.mem_flatMap, List.mem_range, List.mem_map, i64v, ptc, boolv, flat1]; try (intros; simp [valsB, valB, flat1]); try decide))
          exact ih1 ((e + 1), b) (show (f + 1 ≤ (e + 1) ∧ (e + 1) ≤ t) ∧ (Sp.scn ps tol f t ((e + 1) - (f + 1)) = b) ∧ (b ≤ (e + 1)) from ⟨by omega, by (first | exact Sp.scn_near (by omega) hb (by first | assumption | exact Sp.nbf (by assumption)) | exact Sp.scn_first (by omega) hb (by first | assumption | exact Sp.nbt (by assumption)) (by omega) | exact Sp.scn_far (by omega) hb (by first | assumption | exact Sp.nbt (by assumption)) (by assumption) | exact Sp.scn_keep (by omega) hb (by omega) (by assumption)), by omega⟩) (show t - (e + 1) < t - e from by omega)
    · refine aw_d 891 (
        .a 2 2 <| .p (does_indexSlice (t := 24) (x := .tmp 19) (y := .tmp 20) (k := 0) (off := 0) (n := ps.length) (c := 0) (z := 2) (kd := .i64) (j := ((e : Nat) : Int)) (by kernel_rfl) (by kernel_rfl) (by kernel_rfl) (by kernel_rfl) (by kernel_rfl) (by omega) (by omega)) <|
        .p (does_load (t := 29) (x := .tmp 21) (k := 0) (off := (0 + (((e : Nat) : Int)).toNat * 2)) (b := ⟨(ps.flatMap ptc), 29, true, 2⟩) (v := .agg #[.int .i64 ((ps.getD e (0, 0)).1), .int .i64 ((ps.getD e (0, 0)).2)]) (by kernel_rfl) (by kernel_rfl) (by kernel_rfl) (ldV_pair (j := e) (by kernel_rfl) (by kernel_rfl) (by omega) (by omega))) <|
        .a 2 2 <| .p (does_indexSlice (t := 24) (x := .tmp 23) (y := .tmp 24) (k := 0) (off := 0) (n := ps.length) (c := 0) (z := 2) (kd := .i64) (j := ((f : Nat) : Int)) (by kernel_rfl) (by kernel_rfl) (by kernel_rfl) (by kernel_rfl) (by kernel_rfl) (by omega) (by omega)) <|
        .p (does_load (t := 29) (x := .tmp 25) (k := 0) (off := (0 + (((f : Nat) : Int)).toNat * 2)) (b := ⟨(ps.flatMap ptc), 29, true, 2⟩) (v := .agg #[.int .i64 ((ps.getD f (0, 0)).1), .int .i64 ((ps.getD f (0, 0)).2)]) (by kernel_rfl) (by kernel_rfl) (by kernel_rfl) (ldV_pair (j := f) (by kernel_rfl) (by kernel_rfl) (by omega) (by omega))) <|
        .a 2 2 <| .p (does_indexSlice (t := 24) (x := .tmp 27) (y := .tmp 28) (k := 0) (off := 0) (n := ps.length) (c := 0) (z := 2) (kd := .i64) (j := ((t : Nat) : Int)) (by kernel_rfl) (by kernel_rfl) (by kernel_rfl) (by kernel_rfl) (by kernel_rfl) (by omega) (by omega)) <|
        .p (does_load (t := 29) (x := .tmp 29) (k := 0) (off := (0 + (((t : Nat) : Int)).toNat * 2)) (b := ⟨(ps.flatMap ptc), 29, true, 2⟩) (v := .agg #[.int .i64 ((ps.getD t (0, 0)).1), .int .i64 ((ps.getD t (0, 0)).2)]) (by kernel_rfl) (by kernel_rfl) (by kernel_rfl) (ldV_pair (j := t) (by kernel_rfl) (by kernel_rfl) (by omega) (by omega))) <|
        .a 2 2 <|
        .p (does_c (within_in ((ps.getD e (0, 0)).1) ((ps.getD e (0, 0)).2) ((ps.getD f (0, 0)).1) ((ps.getD f (0, 0)).2) ((ps.getD t (0, 0)).1) ((ps.getD t (0, 0)).2) (Sp.mx tol 0) (by omega) (by omega) (by omega) (by omega) (by omega) (by omega) (by omega) (by omega) (by omega) (by omega) (by omega) (by omega))) <|
        .p (does_b false (h2)) <| .a 23 2 <| .nil _ _) ?_
      refine aw_fl 1783 ?_
      refine aw_sk ?_
      refine block_normal ?_
      refine then_normal ?_
      refine aw_p1 (
        .a 1 2 <| .p (does_i (((e : Nat) : Int) + 1) (wrap_i64 (by omega) (by omega)) .i64) <| .a 1 2 <| .nil _ _) ?_
      refine then_normal ?_
      refine al_w [(0, .slice (some ⟨0, 0, none⟩) ps.length 0), (1, .slice (some ⟨1, 0, none⟩) ps.length 0), (2, .int .i64 ((f : Nat) : Int)), (3, .int .i64 ((t : Nat) : Int)), (4, .int .i64 tol), (10, .int .i64 (((b : Nat) : Int) - 1)), (11, .int .i64 (((e + 1) : Nat) : Int))] [(0, ⟨(ps.flatMap ptc), 29, true, 2⟩), (1, ⟨(kp.map boolv), 4, true, 1⟩)] ?_ (hc := (by simp [closedB, valsB, valB, List.all_eq_true, List.mem_flatMap, List.mem_range, List.mem_map, i64v, ptc, boolv, flat1]; try (intros; simp [valsB, valB, flat1]); try decide))
      exact ih1 ((e + 1), b) (show (f + 1 ≤ (e + 1) ∧ (e + 1) ≤ t) ∧ (Sp.scn ps tol f t ((e + 1) - (f + 1)) = b) ∧ (b ≤ (e + 1)) from ⟨by omega, by (first | exact Sp.scn_near (by omega) hb (by first | assumption | exact Sp.nbf (by assumption)) | exact Sp.scn_first (by omega) hb (by first | assumption | exact Sp.nbt (by assumption)) (by omega) | exact Sp.scn_far (by omega) hb (by first | assumption | exact Sp.nbt (by assumption)) (by assumption) | exact Sp.scn_keep (by omega) hb (by omega) (by assumption)), by omega⟩) (show t - (e + 1) < t - e from by omega)
  · have h1p : ¬ ((((e : Nat) : Int) < ((t : Nat) : Int))) := by first | (simpa using h1) | (have h1q := h1; simp at h1q; omega) | (have h1q := bx2 h1; simp at h1q; omega)
    have het : e = t := by omega
    refine aw_ex 0 ?_
    refine then_exit ?_
    refine then_exit ?_
    refine block_exit ?_
    refine then_normal ?_
    refine aw_w [(0, .slice (some ⟨0, 0, none⟩) ps.length 0), (1, .slice (some ⟨1, 0, none⟩) ps.length 0), (2, .int .i64 ((f : Nat) : Int)), (3, .int .i64 ((t : Nat) : Int)), (4, .int .i64 tol), (10, .int .i64 ((((0) : Nat) : Int) - 1))] [(0, ⟨(ps.flatMap ptc), 29, true, 2⟩), (1, ⟨(kp.map boolv), 4, true, 1⟩)] ?_ (by obtain rfl : b = 0 := (by rw [← hb, het]; exact hs); kernel_rfl) (by obtain rfl : b = 0 := (by rw [← hb, het]; exact hs); kernel_rfl) (hc := (by simp [closedB, valsB, valB, List.all_eq_true, List.mem_flatMap, List.mem_range, List.mem_map, i64v, ptc, boolv, flat1]; try (intros; simp [valsB, valB, flat1]); try decide))
    refine aw_sq 14 15 ?_
    refine aw_p 29 (
      .a 1 2 <| .p (does_b true ((show (decide (((((0) : Nat) : Int) - 1) < 0)) = true from (by simp)))) <| .nil _ _) ?_
    refine aw_tr 58 ?_
    refine aw_rt ?_
    refine then_ret ?_
    exact en_ret [] (by kernel_rfl)

theorem mark_cons (ps : List (Int × Int)) (hf : Sp.Few 1048576 ps) (hz : ps.length ≤ 8796093021952) (tol : Int) (f t : Nat) (kp : List Bool) (hk : kp.length = ps.length) (hft : f < t ∧ t < ps.length) (m : Nat) (J K : List Nat) (hm : f < m ∧ m < t) (hs : Sp.scn ps tol f t (t - (f + 1)) = m + 1) (hA : ∀ kp : List Bool, kp.length = ps.length → AC Try.prog 57 2 [.slice (some ⟨0, 0, none⟩) ps.length 0, .slice (some ⟨1, 0, none⟩) ps.length 0, .int .i64 ((f : Nat) : Int), .int .i64 ((m : Nat) : Int), .int .i64 tol] [(0, ⟨(ps.flatMap ptc), 29, true, 2⟩), (1, ⟨(kp.map boolv), 4, true, 1⟩)] (.tuple #[]) [(0, ⟨(ps.flatMap ptc), 29, true, 2⟩), (1, ⟨((Sp.setJ kp J).map boolv), 4, true, 1⟩)]) (hB : ∀ kp : List Bool, kp.length = ps.length → AC Try.prog 57 2 [.slice (some ⟨0, 0, none⟩) ps.length 0, .slice (some ⟨1, 0, none⟩) ps.length 0, .int .i64 ((m : Nat) : Int), .int .i64 ((t : Nat) : Int), .int .i64 tol] [(0, ⟨(ps.flatMap ptc), 29, true, 2⟩), (1, ⟨(kp.map boolv), 4, true, 1⟩)] (.tuple #[]) [(0, ⟨(ps.flatMap ptc), 29, true, 2⟩), (1, ⟨((Sp.setJ kp K).map boolv), 4, true, 1⟩)]) :
    AC Try.prog 57 2 ([.slice (some ⟨0, 0, none⟩) ps.length 0, .slice (some ⟨1, 0, none⟩) ps.length 0, .int .i64 ((f : Nat) : Int), .int .i64 ((t : Nat) : Int), .int .i64 tol]) [(0, ⟨(ps.flatMap ptc), 29, true, 2⟩), (1, ⟨(kp.map boolv), 4, true, 1⟩)] (.tuple #[]) [(0, ⟨(ps.flatMap ptc), 29, true, 2⟩), (1, ⟨((Sp.setJ (Sp.setJ (kp.set m true) J) K).map boolv), 4, true, 1⟩)] := by
  have ff := hf f; have ft := hf t
  refine ac_in Try.func57 (fun w0 W pin => ?_)
  refine aw_p 3 (
    .a 1 2 <| .nil _ _) ?_
  refine aw_sq 6 7 ?_
  refine aw_p 13 (
    .a 1 2 <| .p (does_i (((f : Nat) : Int) + 1) (wrap_i64 (by omega) (by omega)) .i64) <| .a 1 2 <| .nil _ _) ?_
  refine aw_bl 0 27 ?_
  refine aw_lp 55 ?_
  refine al_w [(0, .slice (some ⟨0, 0, none⟩) ps.length 0), (1, .slice (some ⟨1, 0, none⟩) ps.length 0), (2, .int .i64 ((f : Nat) : Int)), (3, .int .i64 ((t : Nat) : Int)), (4, .int .i64 tol), (10, .int .i64 (((0 : Nat) : Int) - 1)), (11, .int .i64 (((f + 1) : Nat) : Int))] [(0, ⟨(ps.flatMap ptc), 29, true, 2⟩), (1, ⟨(kp.map boolv), 4, true, 1⟩)] ?_ (hc := (by simp [closedB, valsB, valB, List.all_eq_true, List.mem_flatMap, List.mem_range, List.mem_map, i64v, ptc, boolv, flat1]; try (intros; simp [valsB, valB, flat1]); try decide))
  refine al_ind (fun i : Nat × Nat => (fun (e : Nat) (b : Nat) => mkSt 2 [(0, .slice (some ⟨0, 0, none⟩) ps.length 0), (1, .slice (some ⟨1, 0, none⟩) ps.length 0), (2, .int .i64 ((f : Nat) : Int)), (3, .int .i64 ((t : Nat) : Int)), (4, .int .i64 tol), (10, .int .i64 (((b : Nat) : Int) - 1)), (11, .int .i64 ((e : Nat) : Int))] [(0, ⟨(ps.flatMap ptc), 29, true, 2⟩), (1, ⟨(kp.map boolv), 4, true, 1⟩)]) i.1 i.2) (fun i : Nat × Nat => (fun (e : Nat) (b : Nat) => (f + 1 ≤ e ∧ e ≤ t) ∧ (Sp.scn ps tol f t (e - (f + 1)) = b) ∧ (b ≤ e)) i.1 i.2) (fun i : Nat × Nat => (fun (e : Nat) (b : Nat) => t - e) i.1 i.2) (fun i hi1 ih1 => ?_) ((f + 1), 0) (show (f + 1 ≤ (f + 1) ∧ (f + 1) ≤ t) ∧ (Sp.scn ps tol f t ((f + 1) - (f + 1)) = 0) ∧ (0 ≤ (f + 1)) from ⟨by omega, by (rw [Nat.sub_self]; rfl), by omega⟩)
  obtain ⟨e, b⟩ := i
  have hi1' : (f + 1 ≤ e ∧ e ≤ t) ∧ (Sp.scn ps tol f t (e - (f + 1)) = b) ∧ (b ≤ e) := hi1
  obtain ⟨he, hb, hl⟩ := hi1'
  show AL _ _ _ (mkSt 2 [(0, .slice (some ⟨0, 0, none⟩) ps.length 0), (1, .slice (some ⟨1, 0, none⟩) ps.length 0), (2, .int .i64 ((f : Nat) : Int)), (3, .int .i64 ((t : Nat) : Int)), (4, .int .i64 tol), (10, .int .i64 (((b : Nat) : Int) - 1)), (11, .int .i64 ((e : Nat) : Int))] [(0, ⟨(ps.flatMap ptc), 29, true, 2⟩), (1, ⟨(kp.map boolv), 4, true, 1⟩)]) _
  refine al_round ?_
  refine aw_sq 110 111 ?_
  refine aw_p 221 (
    .a 3 2 <| .nil _ _) ?_
  refine aw_cd 442 443 (decide (((e : Nat) : Int) < ((t : Nat) : Int))) (fun h1 => ?_) (fun h1 => ?_)
  · have h1p : ((((e : Nat) : Int) < ((t : Nat) : Int))) := by first | (simpa using h1) | (have h1q := h1; simp at h1q; omega) | (have h1q := bx1 h1; simp at h1q; omega)
    have fe := hf e
    refine aw_sk ?_
    refine then_normal ?_
    refine aw_sq 222 223 ?_
    refine aw_bl 1 445 ?_
    rcases Bool.eq_false_or_eq_true (!(Sp.wthn ((ps.getD e (0, 0)).1) ((ps.getD e (0, 0)).2) ((ps.getD f (0, 0)).1) ((ps.getD f (0, 0)).2) ((ps.getD t (0, 0)).1) ((ps.getD t (0, 0)).2) (Sp.mx tol 0))) with h2 | h2
    · rcases Bool.eq_false_or_eq_true (decide ((((b : Nat) : Int) - 1) < 0)) with h3 | h3
      · have h3p : (((((b : Nat) : Int) - 1) < 0)) := by first | (simpa using h3) | (have h3q := h3; simp at h3q; omega) | (have h3q := bx1 h3; simp at h3q; omega)
        refine aw_d 891 (
          .a 2 2 <| .p (does_indexSlice (t := 24) (x := .tmp 19) (y := .tmp 20) (k := 0) (off := 0) (n := ps.length) (c := 0) (z := 2) (kd := .i64) (j := ((e : Nat) : Int)) (by kernel_rfl) (by kernel_rfl) (by kernel_rfl) (by kernel_rfl) (by kernel_rfl) (by omega) (by omega)) <|
          .p (does_load (t := 29) (x := .tmp 21) (k := 0) (off := (0 + (((e : Nat) : Int)).toNat * 2)) (b := ⟨(ps.flatMap ptc), 29, true, 2⟩) (v := .agg #[.int .i64 ((ps.getD e (0, 0)).1), .int .i64 ((ps.getD e (0, 0)).2)]) (by kernel_rfl) (by kernel_rfl) (by kernel_rfl) (ldV_pair (j := e) (by kernel_rfl) (by kernel_rfl) (by omega) (by first | omega | (simp only [hk, List.length_set, Sp.setJ_len]; omega)))) <|
          .a 2 2 <| .p (does_indexSlice (t := 24) (x := .tmp 23) (y := .tmp 24) (k := 0) (off := 0) (n := ps.length) (c := 0) (z := 2) (kd := .i64) (j := ((f : Nat) : Int)) (by kernel_rfl) (by kernel_rfl) (by kernel_rfl) (by kernel_rfl) (by kernel_rfl) (by omega) (by omega)) <|
          .p (does_load (t := 29) (x := .tmp 25) (k := 0) (off := (0 + (((f : Nat) : Int)).toNat * 2)) (b := ⟨(ps.flatMap ptc), 29, true, 2⟩) (v := .agg #[.int .i64 ((ps.getD f (0, 0)).1), .int .i64 ((ps.getD f (0, 0)).2)]) (by kernel_rfl) (by kernel_rfl) (by kernel_rfl) (ldV_pair (j := f) (by kernel_rfl) (by kernel_rfl) (by omega) (by first | omega | (simp only [hk, List.length_set, Sp.setJ_len]; omega)))) <|
          .a 2 2 <| .p (does_indexSlice (t := 24) (x := .tmp 27) (y := .tmp 28) (k := 0) (off := 0) (n := ps.length) (c := 0) (z := 2) (kd := .i64) (j := ((t : Nat) : Int)) (by kernel_rfl) (by kernel_rfl) (by kernel_rfl) (by kernel_rfl) (by kernel_rfl) (by omega) (by omega)) <|
          .p (does_load (t := 29) (x := .tmp 29) (k := 0) (off := (0 + (((t : Nat) : Int)).toNat * 2)) (b := ⟨(ps.flatMap ptc), 29, true, 2⟩) (v := .agg #[.int .i64 ((ps.getD t (0, 0)).1), .int .i64 ((ps.getD t (0, 0)).2)]) (by kernel_rfl) (by kernel_rfl) (by kernel_rfl) (ldV_pair (j := t) (by kernel_rfl) (by kernel_rfl) (by omega) (by first | omega | (simp only [hk, List.length_set, Sp.setJ_len]; omega)))) <|
          .a 2 2 <|
          .p (does_c (within_in ((ps.getD e (0, 0)).1) ((ps.getD e (0, 0)).2) ((ps.getD f (0, 0)).1) ((ps.getD f (0, 0)).2) ((ps.getD t (0, 0)).1) ((ps.getD t (0, 0)).2) (Sp.mx tol 0) (by omega) (by omega) (by omega) (by omega) (by omega) (by omega) (by omega) (by omega) (by omega) (by omega) (by omega) (by omega))) <|
          .p (does_b true (h2)) <| .a 2 2 <| .p (does_b true (h3)) <| .a 20 2 <| .nil _ _) ?_
        refine aw_tr 1782 ?_
        refine aw_p1 (
          .a 1 2 <| .p (does_i (((e + 1 : Nat) : Int) - 1) ((show ((e : Nat) : Int) = (((e + 1 : Nat) : Int) - 1) from (by omega))) .i64) <| .nil _ _) ?_
        refine block_normal ?_
        refine then_normal ?_
        refine aw_p1 (
          .a 1 2 <| .p (does_i (((e : Nat) : Int) + 1) (wrap_i64 (by omega) (by omega)) .i64) <| .a 1 2 <| .nil _ _) ?_
        refine then_normal ?_
        refine al_w [(0, .slice (some ⟨0, 0, none⟩) ps.length 0), (1, .slice (some ⟨1, 0, none⟩) ps.length 0), (2, .int .i64 ((f : Nat) : Int)), (3, .int .i64 ((t : Nat) : Int)), (4, .int .i64 tol), (10, .int .i64 ((((e + 1) : Nat) : Int) - 1)), (11, .int .i64 (((e + 1) : Nat) : Int))] [(0, ⟨(ps.flatMap ptc), 29, true, 2⟩), (1, ⟨(kp.map boolv), 4, true, 1⟩)] ?_ (hc := (by simp [closedB, valsB, valB, List.all_eq_true, List.mem_flatMap, List.mem_range, List.mem_map, i64v, ptc, boolv, flat1]; try (intros; simp [valsB, valB, flat1]); try decide))
        exact ih1 ((e + 1), (e + 1)) (show (f + 1 ≤ (e + 1) ∧ (e + 1) ≤ t) ∧ (Sp.scn ps tol f t ((e + 1) - (f + 1)) = (e + 1)) ∧ ((e + 1) ≤ (e + 1)) from ⟨by omega, by (first | exact Sp.scn_near (by omega) hb (by first | assumption | exact Sp.nbf (by assumption)) | exact Sp.scn_first (by omega) hb (by first | assumption | exact Sp.nbt (by assumption)) (by omega) | exact Sp.scn_far (by omega) hb (by first | assumption | exact Sp.nbt (by assumption)) (by assumption) | exact Sp.scn_keep (by omega) hb (by omega) (by assumption)), by omega⟩) (show t - (e + 1) < t - e from by omega)
      · have h3p : ¬ (((((b : Nat) : Int) - 1) < 0)) := by first | (simpa using h3) | (have h3q := h3; simp at h3q; omega) | (have h3q := bx2 h3; simp at h3q; omega)
        have fb := hf (b - 1)
        refine aw_d 891 (
          .a 2 2 <| .p (does_indexSlice (t := 24) (x := .tmp 19) (y := .tmp 20) (k := 0) (off := 0) (n := ps.length) (c := 0) (z := 2) (kd := .i64) (j := ((e : Nat) : Int)) (by kernel_rfl) (by kernel_rfl) (by kernel_rfl) (by kernel_rfl) (by kernel_rfl) (by omega) (by omega)) <|
          .p (does_load (t := 29) (x := .tmp 21) (k := 0) (off := (0 + (((e : Nat) : Int)).toNat * 2)) (b := ⟨(ps.flatMap ptc), 29, true, 2⟩) (v := .agg #[.int .i64 ((ps.getD e (0, 0)).1), .int .i64 ((ps.getD e (0, 0)).2)]) (by kernel_rfl) (by kernel_rfl) (by kernel_rfl) (ldV_pair (j := e) (by kernel_rfl) (by kernel_rfl) (by omega) (by first | omega | (simp only [hk, List.length_set, Sp.setJ_len]; omega)))) <|
          .a 2 2 <| .p (does_indexSlice (t := 24) (x := .tmp 23) (y := .tmp 24) (k := 0) (off := 0) (n := ps.length) (c := 0) (z := 2) (kd := .i64) (j := ((f : Nat) : Int)) (by kernel_rfl) (by kernel_rfl) (by kernel_rfl) (by kernel_rfl) (by kernel_rfl) (by omega) (by omega)) <|
          .p (does_load (t := 29) (x := .tmp 25) (k := 0) (off := (0 + (((f : Nat) : Int)).toNat * 2)) (b := ⟨(ps.flatMap ptc), 29, true, 2⟩) (v := .agg #[.int .i64 ((ps.getD f (0, 0)).1), .int .i64 ((ps.getD f (0, 0)).2)]) (by kernel_rfl) (by kernel_rfl) (by kernel_rfl) (ldV_pair (j := f) (by kernel_rfl) (by kernel_rfl) (by omega) (by first | omega | (simp only [hk, List.length_set, Sp.setJ_len]; omega)))) <|
          .a 2 2 <| .p (does_indexSlice (t := 24) (x := .tmp 27) (y := .tmp 28) (k := 0) (off := 0) (n := ps.length) (c := 0) (z := 2) (kd := .i64) (j := ((t : Nat) : Int)) (by kernel_rfl) (by kernel_rfl) (by kernel_rfl) (by kernel_rfl) (by kernel_rfl) (by omega) (by omega)) <|
          .p (does_load (t := 29) (x := .tmp 29) (k := 0) (off := (0 + (((t : Nat) : Int)).toNat * 2)) (b := ⟨(ps.flatMap ptc), 29, true, 2⟩) (v := .agg #[.int .i64 ((ps.getD t (0, 0)).1), .int .i64 ((ps.getD t (0, 0)).2)]) (by kernel_rfl) (by kernel_rfl) (by kernel_rfl) (ldV_pair (j := t) (by kernel_rfl) (by kernel_rfl) (by omega) (by first | omega | (simp only [hk, List.length_set, Sp.setJ_len]; omega)))) <|
          .a 2 2 <|
          .p (does_c (within_in ((ps.getD e (0, 0)).1) ((ps.getD e (0, 0)).2) ((ps.getD f (0, 0)).1) ((ps.getD f (0, 0)).2) ((ps.getD t (0, 0)).1) ((ps.getD t (0, 0)).2) (Sp.mx tol 0) (by omega) (by omega) (by omega) (by omega) (by omega) (by omega) (by omega) (by omega) (by omega) (by omega) (by omega) (by omega))) <|
          .p (does_b true (h2)) <| .a 2 2 <| .p (does_b false (h3)) <| .a 3 2 <|
          .p (does_indexSlice (t := 24) (x := .tmp 39) (y := .tmp 40) (k := 0) (off := 0) (n := ps.length) (c := 0) (z := 2) (kd := .i64) (j := ((e : Nat) : Int)) (by kernel_rfl) (by kernel_rfl) (by kernel_rfl) (by kernel_rfl) (by kernel_rfl) (by omega) (by omega)) <|
          .p (does_load (t := 29) (x := .tmp 41) (k := 0) (off := (0 + (((e : Nat) : Int)).toNat * 2)) (b := ⟨(ps.flatMap ptc), 29, true, 2⟩) (v := .agg #[.int .i64 ((ps.getD e (0, 0)).1), .int .i64 ((ps.getD e (0, 0)).2)]) (by kernel_rfl) (by kernel_rfl) (by kernel_rfl) (ldV_pair (j := e) (by kernel_rfl) (by kernel_rfl) (by omega) (by first | omega | (simp only [hk, List.length_set, Sp.setJ_len]; omega)))) <|
          .a 1 2 <| .p (does_i ((b - 1 : Nat) : Int) ((show (((b : Nat) : Int) - 1) = ((b - 1 : Nat) : Int) from (by omega))) .i64) <|
          .p (does_indexSlice (t := 24) (x := .tmp 43) (y := .tmp 44) (k := 0) (off := 0) (n := ps.length) (c := 0) (z := 2) (kd := .i64) (j := ((b - 1 : Nat) : Int)) (by kernel_rfl) (by kernel_rfl) (by kernel_rfl) (by kernel_rfl) (by kernel_rfl) (by omega) (by omega)) <|
          .p (does_load (t := 29) (x := .tmp 45) (k := 0) (off := (0 + (((b - 1 : Nat) : Int)).toNat * 2)) (b := ⟨(ps.flatMap ptc), 29, true, 2⟩) (v := .agg #[.int .i64 ((ps.getD (b - 1) (0, 0)).1), .int .i64 ((ps.getD (b - 1) (0, 0)).2)]) (by kernel_rfl) (by kernel_rfl) (by kernel_rfl) (ldV_pair (j := (b - 1)) (by kernel_rfl) (by kernel_rfl) (by omega) (by first | omega | (simp only [hk, List.length_set, Sp.setJ_len]; omega)))) <|
          .a 2 2 <| .p (does_indexSlice (t := 24) (x := .tmp 47) (y := .tmp 48) (k := 0) (off := 0) (n := ps.length) (c := 0) (z := 2) (kd := .i64) (j := ((f : Nat) : Int)) (by kernel_rfl) (by kernel_rfl) (by kernel_rfl) (by kernel_rfl) (by kernel_rfl) (by omega) (by omega)) <|
          .p (does_load (t := 29) (x := .tmp 49) (k := 0) (off := (0 + (((f : Nat) : Int)).toNat * 2)) (b := ⟨(ps.flatMap ptc), 29, true, 2⟩) (v := .agg #[.int .i64 ((ps.getD f (0, 0)).1), .int .i64 ((ps.getD f (0, 0)).2)]) (by kernel_rfl) (by kernel_rfl) (by kernel_rfl) (ldV_pair (j := f) (by kernel_rfl) (by kernel_rfl) (by omega) (by first | omega | (simp only [hk, List.length_set, Sp.setJ_len]; omega)))) <|
          .a 2 2 <| .p (does_indexSlice (t := 24) (x := .tmp 51) (y := .tmp 52) (k := 0) (off := 0) (n := ps.length) (c := 0) (z := 2) (kd := .i64) (j := ((t : Nat) : Int)) (by kernel_rfl) (by kernel_rfl) (by kernel_rfl) (by kernel_rfl) (by kernel_rfl) (by omega) (by omega)) <|
          .p (does_load (t := 29) (x := .tmp 53) (k := 0) (off := (0 + (((t : Nat) : Int)).toNat * 2)) (b := ⟨(ps.flatMap ptc), 29, true, 2⟩) (v := .agg #[.int .i64 ((ps.getD t (0, 0)).1), .int .i64 ((ps.getD t (0, 0)).2)]) (by kernel_rfl) (by kernel_rfl) (by kernel_rfl) (ldV_pair (j := t) (by kernel_rfl) (by kernel_rfl) (by omega) (by first | omega | (simp only [hk, List.length_set, Sp.setJ_len]; omega)))) <|
          .p (does_c (farther_ok ((ps.getD e (0, 0)).1) ((ps.getD e (0, 0)).2) ((ps.getD (b - 1) (0, 0)).1) ((ps.getD (b - 1) (0, 0)).2) ((ps.getD f (0, 0)).1) ((ps.getD f (0, 0)).2) ((ps.getD t (0, 0)).1) ((ps.getD t (0, 0)).2) (by omega) (by omega) (by omega) (by omega) (by omega) (by omega) (by omega) (by omega) (by omega) (by omega) (by omega) (by omega) (by omega) (by omega) (by omega) (by omega))) <|
          .a 2 2 <| .nil _ _) ?_
        refine aw_cd 1782 1783 (Sp.farB ((ps.getD e (0, 0)).1) ((ps.getD e (0, 0)).2) ((ps.getD (b - 1) (0, 0)).1) ((ps.getD (b - 1) (0, 0)).2) ((ps.getD f (0, 0)).1) ((ps.getD f (0, 0)).2) ((ps.getD t (0, 0)).1) ((ps.getD t (0, 0)).2)) (fun h4 => ?_) (fun h4 => ?_)
        · refine aw_p1 (
            .a 1 2 <| .p (does_i (((e + 1 : Nat) : Int) - 1) ((show ((e : Nat) : Int) = (((e + 1 : Nat) : Int) - 1) from (by omega))) .i64) <| .nil _ _) ?_
          refine block_normal ?_
          refine then_normal ?_
          refine aw_p1 (
            .a 1 2 <| .p (does_i (((e : Nat) : Int) + 1) (wrap_i64 (by omega) (by omega)) .i64) <| .a 1 2 <| .nil _ _) ?_
          refine then_normal ?_
          refine al_w [(0, .slice (some ⟨0, 0, none⟩) ps.length 0), (1, .slice (some ⟨1, 0, none⟩) ps.length 0), (2, .int .i64 ((f : Nat) : Int)), (3, .int .i64 ((t : Nat) : Int)), (4, .int .i64 tol), (10, .int .i64 ((((e + 1) : Nat) : Int) - 1)), (11, .int .i64 (((e + 1) : Nat) : Int))] [(0, ⟨(ps.flatMap ptc), 29, true, 2⟩), (1, ⟨(kp.map boolv), 4, true, 1⟩)] ?_ (hc := (by simp [closedB, valsB, valB, List.all_eq_true, List.mem_flatMap, List.mem_range, List.mem_map, i64v, ptc, boolv, flat1]; try (intros; simp [valsB, valB, flat1]); try decide))
          exact ih1 ((e + 1), (e + 1)) (show (f + 1 ≤ (e + 1) ∧ (e + 1) ≤ t) ∧ (Sp.scn ps tol f t ((e + 1) - (f + 1)) = (e + 1)) ∧ ((e + 1) ≤ (e + 1)) from ⟨by omega, by (first | exact Sp.scn_near (by omega) hb (by first | assumption | exact Sp.nbf (by assumption)) | exact Sp.scn_first (by omega) hb (by first | assumption | exact Sp.nbt (by assumption)) (by omega) | exact Sp.scn_far (by omega) hb (by first | assumption | exact Sp.nbt (by assumption)) (by assumption) | exact Sp.scn_keep (by omega) hb (by omega) (by assumption)), by omega⟩) (show t - (e + 1) < t - e from by omega)
        · refine aw_sk ?_
          refine block_normal ?_
          refine then_normal ?_
          refine aw_p1 (
            .a 1 2 <| .p (does_i (((e : Nat) : Int) + 1) (wrap_i64 (by omega) (by omega)) .i64) <| .a 1 2 <| .nil _ _) ?_
          refine then_normal ?_
          refine al_w [(0, .slice (some ⟨0, 0, none⟩) ps.length 0), (1, .slice (some ⟨1, 0, none⟩) ps.length 0), (2, .int .i64 ((f : Nat) : Int)), (3, .int .i64 ((t : Nat) : Int)), (4, .int .i64 tol), (10, .int .i64 (((b : Nat) : Int) - 1)), (11, .int .i64 (((e + 1) : Nat) : Int))] [(0, ⟨(ps.flatMap ptc), 29, true, 2⟩), (1, ⟨(kp.map boolv), 4, true, 1⟩)] ?_ (hc := (by simp [closedB, valsB, valB, List.all_eq_true, List.mem_flatMap, List.mem_range, List.mem_map, i64v, ptc, boolv, flat1]; try (intros; simp [valsB, valB, flat1]); try decide))
          exact ih1 ((e + 1), b) (show (f + 1 ≤ (e + 1) ∧ (e + 1) ≤ t) ∧ (Sp.scn ps tol f t ((e + 1) - (f + 1)) = b) ∧ (b ≤ (e + 1)) from ⟨by omega, by (first | exact Sp.scn_near (by omega) hb (by first | assumption | exact Sp.nbf (by assumption)) | exact Sp.scn_first (by omega) hb (by first | assumption | exact Sp.nbt (by assumption)) (by omega) | exact Sp.scn_far (by omega) hb (by first | assumption | exact Sp.nbt (by assumption)) (by assumption) | exact Sp.scn_keep (by omega) hb (by omega) (by assumption)), by omega⟩) (show t - (e + 1) < t - e from by omega)
    · refine aw_d 891 (
        .a 2 2 <| .p (does_indexSlice (t := 24) (x := .tmp 19) (y := .tmp 20) (k := 0) (off := 0) (n := ps.length) (c := 0) (z := 2) (kd := .i64) (j := ((e : Nat) : Int)) (by kernel_rfl) (by kernel_rfl) (by kernel_rfl) (by kernel_rfl) (by kernel_rfl) (by omega) (by omega)) <|
        .p (does_load (t := 29) (x := .tmp 21) (k := 0) (off := (0 + (((e : Nat) : Int)).toNat * 2)) (b := ⟨(ps.flatMap ptc), 29, true, 2⟩) (v := .agg #[.int .i64 ((ps.getD e (0, 0)).1), .int .i64 ((ps.getD e (0, 0)).2)]) (by kernel_rfl) (by kernel_rfl) (by kernel_rfl) (ldV_pair (j := e) (by kernel_rfl) (by kernel_rfl) (by omega) (by first | omega | (simp only [hk, List.length_set, Sp.setJ_len]; omega)))) <|
        .a 2 2 <| .p (does_indexSlice (t := 24) (x := .tmp 23) (y := .tmp 24) (k := 0) (off := 0) (n := ps.length) (c := 0) (z := 2) (kd := .i64) (j := ((f : Nat) : Int)) (by kernel_rfl) (by kernel_rfl) (by kernel_rfl) (by kernel_rfl) (by kernel_rfl) (by omega) (by omega)) <|
        .p (does_load (t := 29) (x := .tmp 25) (k := 0) (off := (0 + (((f : Nat) : Int)).toNat * 2)) (b := ⟨(ps.flatMap ptc), 29, true, 2⟩) (v := .agg #[.int .i64 ((ps.getD f (0, 0)).1), .int .i64 ((ps.getD f (0, 0)).2)]) (by kernel_rfl) (by kernel_rfl) (by kernel_rfl) (ldV_pair (j := f) (by kernel_rfl) (by kernel_rfl) (by omega) (by first | omega | (simp only [hk, List.length_set, Sp.setJ_len]; omega)))) <|
        .a 2 2 <| .p (does_indexSlice (t := 24) (x := .tmp 27) (y := .tmp 28) (k := 0) (off := 0) (n := ps.length) (c := 0) (z := 2) (kd := .i64) (j := ((t : Nat) : Int)) (by kernel_rfl) (by kernel_rfl) (by kernel_rfl) (by kernel_rfl) (by kernel_rfl) (by omega) (by omega)) <|
        .p (does_load (t := 29) (x := .tmp 29) (k := 0) (off := (0 + (((t : Nat) : Int)).toNat * 2)) (b := ⟨(ps.flatMap ptc), 29, true, 2⟩) (v := .agg #[.int .i64 ((ps.getD t (0, 0)).1), .int .i64 ((ps.getD t (0, 0)).2)]) (by kernel_rfl) (by kernel_rfl) (by kernel_rfl) (ldV_pair (j := t) (by kernel_rfl) (by kernel_rfl) (by omega) (by first | omega | (simp only [hk, List.length_set, Sp.setJ_len]; omega)))) <|
        .a 2 2 <|
        .p (does_c (within_in ((ps.getD e (0, 0)).1) ((ps.getD e (0, 0)).2) ((ps.getD f (0, 0)).1) ((ps.getD f (0, 0)).2) ((ps.getD t (0, 0)).1) ((ps.getD t (0, 0)).2) (Sp.mx tol 0) (by omega) (by omega) (by omega) (by omega) (by omega) (by omega) (by omega) (by omega) (by omega) (by omega) (by omega) (by omega))) <|
        .p (does_b false (h2)) <| .a 23 2 <| .nil _ _) ?_
      refine aw_fl 1783 ?_
      refine aw_sk ?_
      refine block_normal ?_
      refine then_normal ?_
      refine aw_p1 (
        .a 1 2 <| .p (does_i (((e : Nat) : Int) + 1) (wrap_i64 (by omega) (by omega)) .i64) <| .a 1 2 <| .nil _ _) ?_
      refine then_normal ?_
      refine al_w [(0, .slice (some ⟨0, 0, none⟩) ps.length 0), (1, .slice (some ⟨1, 0, none⟩) ps.length 0), (2, .int .i64 ((f : Nat) : Int)), (3, .int .i64 ((t : Nat) : Int)), (4, .int .i64 tol), (10, .int .i64 (((b : Nat) : Int) - 1)), (11, .int .i64 (((e + 1) : Nat) : Int))] [(0, ⟨(ps.flatMap ptc), 29, true, 2⟩), (1, ⟨(kp.map boolv), 4, true, 1⟩)] ?_ (hc := (by simp [closedB, valsB, valB, List.all_eq_true, List.mem_flatMap, List.mem_range, List.mem_map, i64v, ptc, boolv, flat1]; try (intros; simp [valsB, valB, flat1]); try decide))
      exact ih1 ((e + 1), b) (show (f + 1 ≤ (e + 1) ∧ (e + 1) ≤ t) ∧ (Sp.scn ps tol f t ((e + 1) - (f + 1)) = b) ∧ (b ≤ (e + 1)) from ⟨by omega, by (first | exact Sp.scn_near (by omega) hb (by first | assumption | exact Sp.nbf (by assumption)) | exact Sp.scn_first (by omega) hb (by first | assumption | exact Sp.nbt (by assumption)) (by omega) | exact Sp.scn_far (by omega) hb (by first | assumption | exact Sp.nbt (by assumption)) (by assumption) | exact Sp.scn_keep (by omega) hb (by omega) (by assumption)), by omega⟩) (show t - (e + 1) < t - e from by omega)
  · have h1p : ¬ ((((e : Nat) : Int) < ((t : Nat) : Int))) := by first | (simpa using h1) | (have h1q := h1; simp at h1q; omega) | (have h1q := bx2 h1; simp at h1q; omega)
    have het : e = t := by omega
    refine aw_ex 0 ?_
    refine then_exit ?_
    refine then_exit ?_
    refine block_exit ?_
    refine then_normal ?_
    refine aw_w [(0, .slice (some ⟨0, 0, none⟩) ps.length 0), (1, .slice (some ⟨1, 0, none⟩) ps.length 0), (2, .int .i64 ((f : Nat) : Int)), (3, .int .i64 ((t : Nat) : Int)), (4, .int .i64 tol), (10, .int .i64 ((((m + 1) : Nat) : Int) - 1))] [(0, ⟨(ps.flatMap ptc), 29, true, 2⟩), (1, ⟨(kp.map boolv), 4, true, 1⟩)] ?_ (by obtain rfl : b = m + 1 := (by rw [← hb, het]; exact hs); kernel_rfl) (by obtain rfl : b = m + 1 := (by rw [← hb, het]; exact hs); kernel_rfl) (hc := (by simp [closedB, valsB, valB, List.all_eq_true, List.mem_flatMap, List.mem_range, List.mem_map, i64v, ptc, boolv, flat1]; try (intros; simp [valsB, valB, flat1]); try decide))
    refine aw_sq 14 15 ?_
    refine aw_p 29 (
      .a 1 2 <| .p (does_b false ((show (decide (((((m + 1) : Nat) : Int) - 1) < 0)) = false from (decide_eq_false (by omega))))) <| .nil _ _) ?_
    refine aw_fl 59 ?_
    refine aw_sk ?_
    refine then_normal ?_
    refine aw_p 31 (
      .a 1 2 <| .p (does_i ((m : Nat) : Int) ((show ((((m + 1) : Nat) : Int) - 1) = ((m : Nat) : Int) from (by omega))) .i64) <|
      .p (does_indexSlice (t := 68) (x := .tmp 61) (y := .tmp 62) (k := 1) (off := 0) (n := ps.length) (c := 0) (z := 1) (kd := .i64) (j := ((m : Nat) : Int)) (by kernel_rfl) (by kernel_rfl) (by kernel_rfl) (by kernel_rfl) (by kernel_rfl) (by omega) (by omega)) <|
      .p (does_store (t := 4) (x := .tmp 63) (y := .const (.bool true)) (k := 1) (off := (0 + (((m : Nat) : Int)).toNat * 1)) (b := ⟨(kp.map boolv), 4, true, 1⟩) (v := .bool true) (cells := ((kp.set m true).map boolv)) (by kernel_rfl) (by kernel_rfl) (by kernel_rfl) (by kernel_rfl) (by kernel_rfl) (by kernel_rfl) (by kernel_rfl) (Nat.ble_eq_true_of_le (by show _ + 1 ≤ (kp.map boolv).length; rw [List.length_map]; first | omega | (simp only [hk, List.length_set, Sp.setJ_len]; omega))) (by rw [show (0 + (((m : Nat) : Int)).toNat * 1) = m from (by omega)]; exact set_map rfl)) <| .nil _ _) ?_
    refine aw_p 63 (
      .a 3 2 <| .p (does_i ((m : Nat) : Int) ((show ((((m + 1) : Nat) : Int) - 1) = ((m : Nat) : Int) from (by omega))) .i64) <| .a 1 2 <|
      .p (does_callB (x := .func 57) (ars := #[.tmp 64, .tmp 65, .tmp 66, .tmp 67, .tmp 68]) (ats := #[24, 68, 3, 3, 3]) (g := 57) (vs := [.slice (some ⟨0, 0, none⟩) ps.length 0, .slice (some ⟨1, 0, none⟩) ps.length 0, .int .i64 ((f : Nat) : Int), .int .i64 ((m : Nat) : Int), .int .i64 tol]) (m := 2) (r := 0) (firsts := #[]) (caps := #[]) (args0 := [.slice (some ⟨0, 0, none⟩) ps.length 0, .slice (some ⟨1, 0, none⟩) ps.length 0, .int .i64 ((f : Nat) : Int), .int .i64 ((m : Nat) : Int), .int .i64 tol]) (pre0 := [(0, ⟨(ps.flatMap ptc), 29, true, 2⟩), (1, ⟨((kp.set m true).map boolv), 4, true, 1⟩)]) (post0 := [(0, ⟨(ps.flatMap ptc), 29, true, 2⟩), (1, ⟨((Sp.setJ (kp.set m true) J).map boolv), 4, true, 1⟩)]) (pre := [(0, ⟨(ps.flatMap ptc), 29, true, 2⟩), (1, ⟨((kp.set m true).map boolv), 4, true, 1⟩)]) (post := [(0, ⟨(ps.flatMap ptc), 29, true, 2⟩), (1, ⟨((Sp.setJ (kp.set m true) J).map boolv), 4, true, 1⟩)]) (v0 := .tuple #[]) (v := .tuple #[]) [0, 1] (by kernel_rfl) (by kernel_rfl) (by kernel_rfl) (by kernel_rfl) (hA (kp.set m true) (by simp [Sp.setJ_len, hk])) (.cons (.slice _ _ _ _ _ (by decide)) (.cons (.slice _ _ _ _ _ (by decide)) (.cons (.flatB (by kernel_rfl)) (.cons (.flatB (by kernel_rfl)) (.cons (.flatB (by kernel_rfl)) .nil))))) ⟨rfl, ⟨rfl, rfl, rfl, (.flats (flats_pair _))⟩, rfl, ⟨rfl, rfl, rfl, (.flats (flats_map (fun _ => rfl) _))⟩, trivial⟩ (by kernel_rfl) (by kernel_rfl) (by kernel_rfl) ⟨rfl, ⟨rfl, rfl, rfl, (.flats (flats_pair _))⟩, rfl, ⟨rfl, rfl, rfl, (.flats (flats_map (fun _ => rfl) _))⟩, trivial⟩ (.flatB (by kernel_rfl))) <| .nil _ _) ?_
    refine aw_p1 (
      .a 2 2 <| .p (does_i ((m : Nat) : Int) ((show ((((m + 1) : Nat) : Int) - 1) = ((m : Nat) : Int) from (by omega))) .i64) <| .a 2 2 <|
      .p (does_callB (x := .func 57) (ars := #[.tmp 70, .tmp 71, .tmp 72, .tmp 73, .tmp 74]) (ats := #[24, 68, 3, 3, 3]) (g := 57) (vs := [.slice (some ⟨0, 0, none⟩) ps.length 0, .slice (some ⟨1, 0, none⟩) ps.length 0, .int .i64 ((m : Nat) : Int), .int .i64 ((t : Nat) : Int), .int .i64 tol]) (m := 2) (r := 0) (firsts := #[]) (caps := #[]) (args0 := [.slice (some ⟨0, 0, none⟩) ps.length 0, .slice (some ⟨1, 0, none⟩) ps.length 0, .int .i64 ((m : Nat) : Int), .int .i64 ((t : Nat) : Int), .int .i64 tol]) (pre0 := [(0, ⟨(ps.flatMap ptc), 29, true, 2⟩), (1, ⟨((Sp.setJ (kp.set m true) J).map boolv), 4, true, 1⟩)]) (post0 := [(0, ⟨(ps.flatMap ptc), 29, true, 2⟩), (1, ⟨((Sp.setJ (Sp.setJ (kp.set m true) J) K).map boolv), 4, true, 1⟩)]) (pre := [(0, ⟨(ps.flatMap ptc), 29, true, 2⟩), (1, ⟨((Sp.setJ (kp.set m true) J).map boolv), 4, true, 1⟩)]) (post := [(0, ⟨(ps.flatMap ptc), 29, true, 2⟩), (1, ⟨((Sp.setJ (Sp.setJ (kp.set m true) J) K).map boolv), 4, true, 1⟩)]) (v0 := .tuple #[]) (v := .tuple #[]) [0, 1] (by kernel_rfl) (by kernel_rfl) (by kernel_rfl) (by kernel_rfl) (hB (Sp.setJ (kp.set m true) J) (by simp [Sp.setJ_len, hk])) (.cons (.slice _ _ _ _ _ (by decide)) (.cons (.slice _ _ _ _ _ (by decide)) (.cons (.flatB (by kernel_rfl)) (.cons (.flatB (by kernel_rfl)) (.cons (.flatB (by kernel_rfl)) .nil))))) ⟨rfl, ⟨rfl, rfl, rfl, (.flats (flats_pair _))⟩, rfl, ⟨rfl, rfl, rfl, (.flats (flats_map (fun _ => rfl) _))⟩, trivial⟩ (by kernel_rfl) (by kernel_rfl) (by kernel_rfl) ⟨rfl, ⟨rfl, rfl, rfl, (.flats (flats_pair _))⟩, rfl, ⟨rfl, rfl, rfl, (.flats (flats_map (fun _ => rfl) _))⟩, trivial⟩ (.flatB (by kernel_rfl))) <| .nil _ _) ?_
    exact en_normal [] (by kernel_rfl)

theorem mark_ok (ps : List (Int × Int)) (hf : Sp.Few 1048576 ps) (hz : ps.length ≤ 8796093021952) (tol : Int) {f t : Nat} {L : List Nat} (h : Sp.ThinP ps tol f t L) : t < ps.length → ∀ kp : List Bool, kp.length = ps.length → AC Try.prog 57 2 [.slice (some ⟨0, 0, none⟩) ps.length 0, .slice (some ⟨1, 0, none⟩) ps.length 0, .int .i64 ((f : Nat) : Int), .int .i64 ((t : Nat) : Int), .int .i64 tol] [(0, ⟨(ps.flatMap ptc), 29, true, 2⟩), (1, ⟨(kp.map boolv), 4, true, 1⟩)] (.tuple #[]) [(0, ⟨(ps.flatMap ptc), 29, true, 2⟩), (1, ⟨((Sp.setJ kp L).map boolv), 4, true, 1⟩)] := by
  unfold Sp.ThinP at h
  induction h with
  | @nil f t h hn =>
    intro ht kp hk
    rw [Sp.setJ_nil]
    exact mark_nil ps hf hz tol f t kp hk ⟨h, ht⟩ (Sp.scn_nil (.nil h hn))
  | @cons f m t J K h h1 h2 i1 i2 =>
    intro ht kp hk
    have q := mark_cons ps hf hz tol f t kp hk ⟨by have := h.1; omega, ht⟩ m J K h.1 (Sp.scn_cons h) (i1 (by have := h.1; omega)) (i2 ht)
    rw [Sp.setJ_cons (by have := h.1; omega)] at q
    exact q

end Go.Proofs.Ytadifmimefmcnaa.Am
