/-
  The walks of the library over lists of any length.
-/
import Derived.Test.YtadifmimefmcnaaProg
import Derived.Test.YtadifmimefmcnaaAm16
import Derived.Test.YtadifmimefmcnaaRg8
import Derived.Test.YtadifmimefmcnaaAm22
import Derived.Test.YtadifmimefmcnaaPt2
namespace Go.Proofs.Ytadifmimefmcnaa.Am
open Go Go.Proofs
set_option maxRecDepth 100000
set_option maxHeartbeats 4000000
set_option linter.unusedVariables false
set_option linter.unusedSimpArgs false

theorem minf_ok (ps : List (Int × Int)) (hn : 1 ≤ ps.length) (hz : ps.length ≤ 8796093021952) :
    AC Try.prog 46 1 ([.slice (some ⟨0, 0, none⟩) ps.length 0, .func (.func 86) #[] #[]]) [(0, ⟨(ps.flatMap ptc), 29, true, 2⟩)] (.agg #[.int .i64 ((Sp.mnP ps (ps.length - 1)).1), .int .i64 ((Sp.mnP ps (ps.length - 1)).2)]) [(0, ⟨(ps.flatMap ptc), 29, true, 2⟩)] := by
  refine ac_in Try.func46 (fun w0 W pin => ?_)
  refine aw_p 3 (
    .a 1 1 <| .nil _ _) ?_
  refine aw_sq 6 7 ?_
  refine aw_p 13 (
    .a 2 2 <| .p (does_b false ((show (decide (((ps.length : Nat) : Int) < 1)) = false from decide_eq_false (by omega)))) <| .nil _ _) ?_
  refine aw_fl 27 ?_
  refine aw_sk ?_
  refine then_normal ?_
  refine aw_p 15 (
    .a 1 2 <| .p (does_indexSlice (t := 24) (x := .tmp 11) (y := .const (.int .i64 0)) (k := 0) (off := 0) (n := ps.length) (c := 0) (z := 2) (kd := .i64) (j := 0) (by kernel_rfl) (by kernel_rfl) (by kernel_rfl) (by kernel_rfl) (by kernel_rfl) (by omega) (by omega)) <|
    .p (does_load (t := 29) (x := .tmp 12) (k := 0) (off := 0) (b := ⟨(ps.flatMap ptc), 29, true, 2⟩) (v := .agg #[.int .i64 ((ps.getD 0 (0, 0)).1), .int .i64 ((ps.getD 0 (0, 0)).2)]) (by kernel_rfl) (by kernel_rfl) (by kernel_rfl) (ldV_pair (j := 0) (by kernel_rfl) (by kernel_rfl) (by omega) (by omega))) <|
    .a 2 2 <| .nil _ _) ?_
  refine aw_sq 30 31 ?_
  refine aw_p 61 (
    .a 1 3 <| .nil _ _) ?_
  refine aw_bl 0 123 ?_
  refine aw_lp 247 ?_
  refine al_w [(0, .slice (some ⟨0, 0, none⟩) ps.length 0), (1, .func (.func 86) #[] #[]), (4, .pointer (some ⟨1, 0, none⟩)), (5, .pointer (some ⟨2, 0, none⟩)), (6, .int .i64 ((0 + 1 : Nat) : Int))] [(0, ⟨(ps.flatMap ptc), 29, true, 2⟩), (1, ⟨[.int .i64 0, .int .i64 0], 29, true, 2⟩), (2, ⟨[.int .i64 ((ps.getD 0 (0, 0)).1), .int .i64 ((ps.getD 0 (0, 0)).2)], 29, true, 2⟩)] ?_ (hc := (by simp [closedB, valsB, valB, List.all_eq_true, List.mem_flatMap, List.mem_range, List.mem_map, i64v, ptc, flat1]; try (intros; simp [valsB, valB, flat1]); try decide))
  refine al_ind (fun i : Nat × Int × Int => (fun (i : Nat) (a : Int) (b : Int) => mkSt 1 [(0, .slice (some ⟨0, 0, none⟩) ps.length 0), (1, .func (.func 86) #[] #[]), (4, .pointer (some ⟨1, 0, none⟩)), (5, .pointer (some ⟨2, 0, none⟩)), (6, .int .i64 ((i + 1 : Nat) : Int))] [(0, ⟨(ps.flatMap ptc), 29, true, 2⟩), (1, ⟨[.int .i64 0, .int .i64 0], 29, true, 2⟩), (2, ⟨[.int .i64 a, .int .i64 b], 29, true, 2⟩)]) i.1 i.2.1 i.2.2) (fun i : Nat × Int × Int => (fun (i : Nat) (a : Int) (b : Int) => (i + 1 ≤ ps.length) ∧ (a = (Sp.mnP ps i).1) ∧ (b = (Sp.mnP ps i).2)) i.1 i.2.1 i.2.2) (fun i : Nat × Int × Int => (fun (i : Nat) (a : Int) (b : Int) => ps.length - i) i.1 i.2.1 i.2.2) (fun i hi1 ih1 => ?_) (0, ((ps.getD 0 (0, 0)).1), ((ps.getD 0 (0, 0)).2)) (show (0 + 1 ≤ ps.length) ∧ (((ps.getD 0 (0, 0)).1) = (Sp.mnP ps 0).1) ∧ (((ps.getD 0 (0, 0)).2) = (Sp.mnP ps 0).2) from ⟨by omega, by rfl, by rfl⟩)
  obtain ⟨i, a, b⟩ := i
  have hi1' : (i + 1 ≤ ps.length) ∧ (a = (Sp.mnP ps i).1) ∧ (b = (Sp.mnP ps i).2) := hi1
  obtain ⟨hi, ha, hb⟩ := hi1'
  show AL _ _ _ (mkSt 1 [(0, .slice (some ⟨0, 0, none⟩) ps.length 0), (1, .func (.func 86) #[] #[]), (4, .pointer (some ⟨1, 0, none⟩)), (5, .pointer (some ⟨2, 0, none⟩)), (6, .int .i64 ((i + 1 : Nat) : Int))] [(0, ⟨(ps.flatMap ptc), 29, true, 2⟩), (1, ⟨[.int .i64 0, .int .i64 0], 29, true, 2⟩), (2, ⟨[.int .i64 a, .int .i64 b], 29, true, 2⟩)]) _
  refine al_round ?_
  refine aw_sq 494 495 ?_
  refine aw_p 989 (
    .a 4 3 <| .nil _ _) ?_
  refine aw_cd 1978 1979 (decide (((i + 1 : Nat) : Int) < ((ps.length : Nat) : Int))) (fun h1 => ?_) (fun h1 => ?_)
  · have h1p : ((((i + 1 : Nat) : Int) < ((ps.length : Nat) : Int))) := by first | (simpa using h1) | (have h1q := h1; simp at h1q; omega) | (have h1q := bx1 h1; simp at h1q; omega)
    have hil : i + 1 < ps.length := by omega
    refine aw_sk ?_
    refine then_normal ?_
    refine aw_sq 990 991 ?_
    refine aw_bl 1 1981 ?_
    refine aw_d 3963 (
      .a 3 3 <| .p (does_indexSlice (t := 24) (x := .tmp 21) (y := .tmp 22) (k := 0) (off := 0) (n := ps.length) (c := 0) (z := 2) (kd := .i64) (j := ((i + 1 : Nat) : Int)) (by kernel_rfl) (by kernel_rfl) (by kernel_rfl) (by kernel_rfl) (by kernel_rfl) (by omega) (by omega)) <|
      .p (does_load (t := 29) (x := .tmp 23) (k := 0) (off := (0 + (((i + 1 : Nat) : Int)).toNat * 2)) (b := ⟨(ps.flatMap ptc), 29, true, 2⟩) (v := .agg #[.int .i64 ((ps.getD (i + 1) (0, 0)).1), .int .i64 ((ps.getD (i + 1) (0, 0)).2)]) (by kernel_rfl) (by kernel_rfl) (by kernel_rfl) (ldV_pair (j := (i + 1)) (by kernel_rfl) (by kernel_rfl) (by omega) (by omega))) <|
      .a 1 3 <| .p (does_c (rbefore_ok ((ps.getD (i + 1) (0, 0)).1) ((ps.getD (i + 1) (0, 0)).2) a b)) <| .a 1 3 <| .nil _ _) ?_
    refine aw_cd 7926 7927 (decide ((Sp.pcmp ((ps.getD (i + 1) (0, 0)).1) ((ps.getD (i + 1) (0, 0)).2) a b) < 0)) (fun h2 => ?_) (fun h2 => ?_)
    · have h2p : (((Sp.pcmp ((ps.getD (i + 1) (0, 0)).1) ((ps.getD (i + 1) (0, 0)).2) a b) < 0)) := by first | (simpa using h2) | (have h2q := h2; simp at h2q; omega) | (have h2q := bx1 h2; simp at h2q; omega)
      refine aw_p1 (
        .a 2 3 <| .p (does_indexSlice (t := 24) (x := .tmp 28) (y := .tmp 29) (k := 0) (off := 0) (n := ps.length) (c := 0) (z := 2) (kd := .i64) (j := ((i + 1 : Nat) : Int)) (by kernel_rfl) (by kernel_rfl) (by kernel_rfl) (by kernel_rfl) (by kernel_rfl) (by omega) (by omega)) <|
        .p (does_load (t := 29) (x := .tmp 30) (k := 0) (off := (0 + (((i + 1 : Nat) : Int)).toNat * 2)) (b := ⟨(ps.flatMap ptc), 29, true, 2⟩) (v := .agg #[.int .i64 ((ps.getD (i + 1) (0, 0)).1), .int .i64 ((ps.getD (i + 1) (0, 0)).2)]) (by kernel_rfl) (by kernel_rfl) (by kernel_rfl) (ldV_pair (j := (i + 1)) (by kernel_rfl) (by kernel_rfl) (by omega) (by omega))) <|
        .a 1 3 <| .nil _ _) ?_
      refine block_normal ?_
      refine then_normal ?_
      refine aw_p1 (
        .a 1 3 <| .p (does_i (((i + 1 : Nat) : Int) + 1) (wrap_i64 (by omega) (by omega)) .i64) <| .a 1 3 <| .nil _ _) ?_
      refine then_normal ?_
      refine al_w [(0, .slice (some ⟨0, 0, none⟩) ps.length 0), (1, .func (.func 86) #[] #[]), (4, .pointer (some ⟨1, 0, none⟩)), (5, .pointer (some ⟨2, 0, none⟩)), (6, .int .i64 (((i + 1) + 1 : Nat) : Int))] [(0, ⟨(ps.flatMap ptc), 29, true, 2⟩), (1, ⟨[.int .i64 0, .int .i64 0], 29, true, 2⟩), (2, ⟨[.int .i64 ((ps.getD (i + 1) (0, 0)).1), .int .i64 ((ps.getD (i + 1) (0, 0)).2)], 29, true, 2⟩)] ?_ (hc := (by simp [closedB, valsB, valB, List.all_eq_true, List.mem_flatMap, List.mem_range, List.mem_map, i64v, ptc, flat1]; try (intros; simp [valsB, valB, flat1]); try decide))
      exact ih1 ((i + 1), ((ps.getD (i + 1) (0, 0)).1), ((ps.getD (i + 1) (0, 0)).2)) (show ((i + 1) + 1 ≤ ps.length) ∧ (((ps.getD (i + 1) (0, 0)).1) = (Sp.mnP ps (i + 1)).1) ∧ (((ps.getD (i + 1) (0, 0)).2) = (Sp.mnP ps (i + 1)).2) from ⟨by omega, by (first | exact congrArg (·.1) (Sp.mnP_y ha hb (by assumption)) | exact congrArg (·.1) (Sp.mnP_n ha hb (by assumption))), by (first | exact congrArg (·.2) (Sp.mnP_y ha hb (by assumption)) | exact congrArg (·.2) (Sp.mnP_n ha hb (by assumption)))⟩) (show ps.length - (i + 1) < ps.length - i from by omega)
    · have h2p : ¬ (((Sp.pcmp ((ps.getD (i + 1) (0, 0)).1) ((ps.getD (i + 1) (0, 0)).2) a b) < 0)) := by first | (simpa using h2) | (have h2q := h2; simp at h2q; omega) | (have h2q := bx2 h2; simp at h2q; omega)
      refine aw_sk ?_
      refine block_normal ?_
      refine then_normal ?_
      refine aw_p1 (
        .a 1 3 <| .p (does_i (((i + 1 : Nat) : Int) + 1) (wrap_i64 (by omega) (by omega)) .i64) <| .a 1 3 <| .nil _ _) ?_
      refine then_normal ?_
      refine al_w [(0, .slice (some ⟨0, 0, none⟩) ps.length 0), (1, .func (.func 86) #[] #[]), (4, .pointer (some ⟨1, 0, none⟩)), (5, .pointer (some ⟨2, 0, none⟩)), (6, .int .i64 (((i + 1) + 1 : Nat) : Int))] [(0, ⟨(ps.flatMap ptc), 29, true, 2⟩), (1, ⟨[.int .i64 0, .int .i64 0], 29, true, 2⟩), (2, ⟨[.int .i64 a, .int .i64 b], 29, true, 2⟩)] ?_ (hc := (by simp [closedB, valsB, valB, List.all_eq_true, List.mem_flatMap, List.mem_range, List.mem_map, i64v, ptc, flat1]; try (intros; simp [valsB, valB, flat1]); try decide))
      exact ih1 ((i + 1), a, b) (show ((i + 1) + 1 ≤ ps.length) ∧ (a = (Sp.mnP ps (i + 1)).1) ∧ (b = (Sp.mnP ps (i + 1)).2) from ⟨by omega, by (first | exact congrArg (·.1) (Sp.mnP_y ha hb (by assumption)) | exact congrArg (·.1) (Sp.mnP_n ha hb (by assumption))), by (first | exact congrArg (·.2) (Sp.mnP_y ha hb (by assumption)) | exact congrArg (·.2) (Sp.mnP_n ha hb (by assumption)))⟩) (show ps.length - (i + 1) < ps.length - i from by omega)
  · have h1p : ¬ ((((i + 1 : Nat) : Int) < ((ps.length : Nat) : Int))) := by first | (simpa using h1) | (have h1q := h1; simp at h1q; omega) | (have h1q := bx2 h1; simp at h1q; omega)
    have hge : i = ps.length - 1 := by omega
    refine aw_ex 0 ?_
    refine then_exit ?_
    refine then_exit ?_
    refine block_exit ?_
    refine then_normal ?_
    refine aw_p 63 (
      .a 2 3 <| .nil _ _) ?_
    refine aw_rt ?_
    exact en_ret [.agg #[.int .i64 a, .int .i64 b]] (show (.agg #[.int .i64 a, .int .i64 b] : Value) = (.agg #[.int .i64 ((Sp.mnP ps (ps.length - 1)).1), .int .i64 ((Sp.mnP ps (ps.length - 1)).2)]) from (congrArg (fun z : List Value => Value.agg z.toArray) (lcons (congrArg (Value.int .i64) (show a = ((Sp.mnP ps (ps.length - 1)).1) from by (first | exact (by rw [ha, hge]) | exact (by rw [hb, hge])))) (lcons (congrArg (Value.int .i64) (show b = ((Sp.mnP ps (ps.length - 1)).2) from by (first | exact (by rw [ha, hge]) | exact (by rw [hb, hge])))) rfl))))

theorem index_ok (ps : List (Int × Int)) (hn : 1 ≤ ps.length) (hz : ps.length ≤ 8796093021952) (x y : Int) :
    AC Try.prog 59 1 ([.slice (some ⟨0, 0, none⟩) ps.length 0, .agg #[.int .i64 x, .int .i64 y]]) [(0, ⟨(ps.flatMap ptc), 29, true, 2⟩)] (.int .i64 (Sp.ixF (Sp.eqTo (x, y)) ps 0)) [(0, ⟨(ps.flatMap ptc), 29, true, 2⟩)] := by
  refine ac_in Try.func59 (fun w0 W pin => ?_)
  refine aw_p 3 (
    .a 2 1 <| .nil _ _) ?_
  refine aw_sq 6 7 ?_
  refine aw_p 13 (
    .a 3 2 <| .nil _ _) ?_
  refine aw_bl 0 27 ?_
  refine aw_lp 55 ?_
  refine al_w [(0, .slice (some ⟨0, 0, none⟩) ps.length 0), (3, .pointer (some ⟨1, 0, none⟩)), (7, .int .i64 ((ps.length : Nat) : Int)), (8, .int .i64 ((0 : Nat) : Int))] [(0, ⟨(ps.flatMap ptc), 29, true, 2⟩), (1, ⟨[.int .i64 x, .int .i64 y], 29, true, 2⟩)] ?_ (hc := (by simp [closedB, valsB, valB, List.all_eq_true, List.mem_flatMap, List.mem_range, List.mem_map, i64v, ptc, flat1]; try (intros; simp [valsB, valB, flat1]); try decide))
  refine al_ind (fun i : Nat => (fun (i : Nat) => mkSt 1 [(0, .slice (some ⟨0, 0, none⟩) ps.length 0), (3, .pointer (some ⟨1, 0, none⟩)), (7, .int .i64 ((ps.length : Nat) : Int)), (8, .int .i64 ((i : Nat) : Int))] [(0, ⟨(ps.flatMap ptc), 29, true, 2⟩), (1, ⟨[.int .i64 x, .int .i64 y], 29, true, 2⟩)]) i) (fun i : Nat => (fun (i : Nat) => (i ≤ ps.length) ∧ (Sp.ixF (Sp.eqTo (x, y)) ps i = Sp.ixF (Sp.eqTo (x, y)) ps 0)) i) (fun i : Nat => (fun (i : Nat) => ps.length - i) i) (fun i hi1 ih1 => ?_) 0 (show (0 ≤ ps.length) ∧ (Sp.ixF (Sp.eqTo (x, y)) ps 0 = Sp.ixF (Sp.eqTo (x, y)) ps 0) from ⟨by omega, by rfl⟩)
  obtain ⟨i, hv1⟩ : ∃ z, z = i := ⟨i, rfl⟩; subst hv1
  have hi1' : (i ≤ ps.length) ∧ (Sp.ixF (Sp.eqTo (x, y)) ps i = Sp.ixF (Sp.eqTo (x, y)) ps 0) := hi1
  obtain ⟨hi, hh⟩ := hi1'
  show AL _ _ _ (mkSt 1 [(0, .slice (some ⟨0, 0, none⟩) ps.length 0), (3, .pointer (some ⟨1, 0, none⟩)), (7, .int .i64 ((ps.length : Nat) : Int)), (8, .int .i64 ((i : Nat) : Int))] [(0, ⟨(ps.flatMap ptc), 29, true, 2⟩), (1, ⟨[.int .i64 x, .int .i64 y], 29, true, 2⟩)]) _
  refine al_round ?_
  refine aw_p 111 (
    .a 1 2 <| .nil _ _) ?_
  refine aw_sq 222 223 ?_
  refine aw_cd 444 445 (decide (((i : Nat) : Int) < ((ps.length : Nat) : Int))) (fun h1 => ?_) (fun h1 => ?_)
  · have h1p : ((((i : Nat) : Int) < ((ps.length : Nat) : Int))) := by first | (simpa using h1) | (have h1q := h1; simp at h1q; omega) | (have h1q := bx1 h1; simp at h1q; omega)
    have hil : i < ps.length := by omega
    refine aw_sk ?_
    refine then_normal ?_
    refine aw_sq 446 447 ?_
    refine aw_bl 1 893 ?_
    refine aw_p 1787 (
      .a 2 2 <| .nil _ _) ?_
    refine aw_d 3575 (
      .a 3 2 <| .p (does_indexSlice (t := 24) (x := .tmp 12) (y := .tmp 13) (k := 0) (off := 0) (n := ps.length) (c := 0) (z := 2) (kd := .i64) (j := ((i : Nat) : Int)) (by kernel_rfl) (by kernel_rfl) (by kernel_rfl) (by kernel_rfl) (by kernel_rfl) (by omega) (by omega)) <|
      .p (does_load (t := 29) (x := .tmp 14) (k := 0) (off := (0 + (((i : Nat) : Int)).toNat * 2)) (b := ⟨(ps.flatMap ptc), 29, true, 2⟩) (v := .agg #[.int .i64 ((ps.getD i (0, 0)).1), .int .i64 ((ps.getD i (0, 0)).2)]) (by kernel_rfl) (by kernel_rfl) (by kernel_rfl) (ldV_pair (j := i) (by kernel_rfl) (by kernel_rfl) (by omega) (by omega))) <|
      .p (does_e ((x == ((ps.getD i (0, 0)).1)) && ((y == ((ps.getD i (0, 0)).2)) && true)) (rfl)) <| .nil _ _) ?_
    refine aw_cd 7150 7151 ((x == ((ps.getD i (0, 0)).1)) && ((y == ((ps.getD i (0, 0)).2)) && true)) (fun h2 => ?_) (fun h2 => ?_)
    · have h2p : ((x = ((ps.getD i (0, 0)).1) ∧ y = ((ps.getD i (0, 0)).2))) := by first | (simpa using h2) | (have h2q := h2; simp at h2q; omega) | (have h2q := bx1 h2; simp at h2q; omega)
      refine aw_p 14301 (
        .a 2 2 <| .nil _ _) ?_
      refine aw_rt ?_
      refine block_ret ?_
      refine then_ret ?_
      refine then_ret ?_
      refine block_ret ?_
      refine then_ret ?_
      exact en_ret [.int .i64 ((i : Nat) : Int)] (show (.int .i64 ((i : Nat) : Int) : Value) = (.int .i64 (Sp.ixF (Sp.eqTo (x, y)) ps 0)) from (congrArg (Value.int .i64) (show ((i : Nat) : Int) = (Sp.ixF (Sp.eqTo (x, y)) ps 0) from by (first | exact (by rw [← hh, Sp.ixF_yes hil (by assumption)]) | exact (by rw [← hh, Sp.ixF_end hge])))))
    · have h2p : ¬ ((x = ((ps.getD i (0, 0)).1) ∧ y = ((ps.getD i (0, 0)).2))) := by first | (simpa using h2) | (have h2q := h2; simp at h2q; omega) | (have h2q := bx2 h2; simp at h2q; omega)
      refine aw_sk ?_
      refine block_normal ?_
      refine then_normal ?_
      refine aw_p1 (
        .p (does_i (((i : Nat) : Int) + 1) (wrap_i64 (by omega) (by omega)) .i64) <| .a 1 2 <| .nil _ _) ?_
      refine then_normal ?_
      refine al_w [(0, .slice (some ⟨0, 0, none⟩) ps.length 0), (3, .pointer (some ⟨1, 0, none⟩)), (7, .int .i64 ((ps.length : Nat) : Int)), (8, .int .i64 (((i + 1) : Nat) : Int))] [(0, ⟨(ps.flatMap ptc), 29, true, 2⟩), (1, ⟨[.int .i64 x, .int .i64 y], 29, true, 2⟩)] ?_ (hc := (by simp [closedB, valsB, valB, List.all_eq_true, List.mem_flatMap, List.mem_range, List.mem_map, i64v, ptc, flat1]; try (intros; simp [valsB, valB, flat1]); try decide))
      exact ih1 (i + 1) (show ((i + 1) ≤ ps.length) ∧ (Sp.ixF (Sp.eqTo (x, y)) ps (i + 1) = Sp.ixF (Sp.eqTo (x, y)) ps 0) from ⟨by omega, by (rw [← hh]; exact Sp.ixF_no hil (by assumption))⟩) (show ps.length - (i + 1) < ps.length - i from by omega)
  · have h1p : ¬ ((((i : Nat) : Int) < ((ps.length : Nat) : Int))) := by first | (simpa using h1) | (have h1q := h1; simp at h1q; omega) | (have h1q := bx2 h1; simp at h1q; omega)
    have hge : ¬ i < ps.length := by omega
    refine aw_ex 0 ?_
    refine then_exit ?_
    refine then_exit ?_
    refine block_exit ?_
    refine then_normal ?_
    refine aw_p 15 (
      .a 1 2 <| .nil _ _) ?_
    refine aw_rt ?_
    exact en_ret [.int .i64 (-1)] (show (.int .i64 (-1) : Value) = (.int .i64 (Sp.ixF (Sp.eqTo (x, y)) ps 0)) from (congrArg (Value.int .i64) (show (-1) = (Sp.ixF (Sp.eqTo (x, y)) ps 0) from by (first | exact (by rw [← hh, Sp.ixF_yes hil (by assumption)]) | exact (by rw [← hh, Sp.ixF_end hge])))))

theorem indexnil_ok (x y : Int) :
    AC Try.prog 59 0 ([.slice none 0 0, .agg #[.int .i64 x, .int .i64 y]]) [] (.int .i64 (-1)) [] := by
  refine ac_in Try.func59 (fun w0 W pin => ?_)
  refine aw_p 3 (
    .a 2 1 <| .nil _ _) ?_
  refine aw_sq 6 7 ?_
  refine aw_p 13 (
    .a 3 2 <| .nil _ _) ?_
  refine aw_bl 0 27 ?_
  refine aw_lp 55 ?_
  refine al_round ?_
  refine aw_p 111 (
    .a 1 2 <| .nil _ _) ?_
  refine aw_sq 222 223 ?_
  refine aw_fl 445 ?_
  refine aw_ex 0 ?_
  refine then_exit ?_
  refine then_exit ?_
  refine block_exit ?_
  refine then_normal ?_
  refine aw_p 15 (
    .a 1 2 <| .nil _ _) ?_
  refine aw_rt ?_
  exact en_ret [.int .i64 (-1)] (by kernel_rfl)

theorem index_n (ps : List (Int × Int)) (N : Nat) (hN : ps.length = N) (hn : 1 ≤ N) (hz : N ≤ 8796093021952) (x y : Int) : AC Try.prog 59 1 [.slice (some ⟨0, 0, none⟩) N 0, .agg #[.int .i64 x, .int .i64 y]] [(0, ⟨(ps.flatMap ptc), 29, true, 2⟩)] (.int .i64 (Sp.ixF (Sp.eqTo (x, y)) ps 0)) [(0, ⟨(ps.flatMap ptc), 29, true, 2⟩)] := by
  subst hN
  exact index_ok ps hn hz x y

end Go.Proofs.Ytadifmimefmcnaa.Am
