/-
  The walks of the box of an area.
-/
import Derived.Test.YtndkhgfecnbmnaaProg
import Derived.Test.YtndkhgfecnbmnaaAm16
import Derived.Test.YtndkhgfecnbmnaaZ7
namespace Go.Proofs.Ytndkhgfecnbmnaa.Am
open Go Go.Proofs
set_option maxRecDepth 100000
set_option maxHeartbeats 4000000
set_option linter.unusedVariables false
set_option linter.unusedSimpArgs false

theorem abox_1 (R1 : List (Int × Int)) (zR1 : 1 ≤ R1.length ∧ R1.length ≤ 200) (fR1 : Sp.Few 1000 R1) :
    AC Try.prog 16 2 ([.slice (some ⟨0, 0, none⟩) 1 0]) [(0, ⟨[.slice (some ⟨1, 0, none⟩) R1.length 0], 30, true, 1⟩), (1, ⟨(R1.flatMap ptc), 28, true, 2⟩)] (.agg #[.int .i64 ((Sp.bxr R1 R1.length).1), .int .i64 ((Sp.bxr R1 R1.length).2.1), .int .i64 ((Sp.bxr R1 R1.length).2.2.1), .int .i64 ((Sp.bxr R1 R1.length).2.2.2)]) [(0, ⟨[.slice (some ⟨1, 0, none⟩) R1.length 0], 30, true, 1⟩), (1, ⟨(R1.flatMap ptc), 28, true, 2⟩)] := by
  have hN : R1.length = R1.length := rfl
  refine ac_in Try.func16 (fun w0 W pin => ?_)
  refine aw_p 3 (
    .a 1 2 <| .nil _ _) ?_
  refine aw_p 7 (
    .a 1 3 <| .nil _ _) ?_
  refine aw_sq 14 15 ?_
  refine aw_p 29 (
    .a 1 4 <|
    .p (does_callB (x := .func 25) (ars := #[.tmp 6]) (ats := #[24]) (g := 25) (vs := [.slice (some ⟨0, 0, none⟩) 1 0]) (m := 2) (r := 1) (firsts := #[]) (caps := #[]) (args0 := [.slice (some ⟨0, 0, none⟩) 1 0]) (pre0 := [(0, ⟨[.slice (some ⟨1, 0, none⟩) R1.length 0], 30, true, 1⟩), (1, ⟨(R1.flatMap ptc), 28, true, 2⟩)]) (post0 := [(0, ⟨[.slice (some ⟨1, 0, none⟩) R1.length 0], 30, true, 1⟩), (1, ⟨(R1.flatMap ptc), 28, true, 2⟩), (2, ⟨(R1.flatMap ptc), 28, true, 2⟩)]) (pre := [(0, ⟨[.slice (some ⟨1, 0, none⟩) R1.length 0], 30, true, 1⟩), (1, ⟨(R1.flatMap ptc), 28, true, 2⟩)]) (post := [(0, ⟨[.slice (some ⟨1, 0, none⟩) R1.length 0], 30, true, 1⟩), (1, ⟨(R1.flatMap ptc), 28, true, 2⟩), (4, ⟨(R1.flatMap ptc), 28, true, 2⟩)]) (v0 := .slice (some ⟨2, 0, none⟩) R1.length 0) (v := .slice (some ⟨4, 0, none⟩) R1.length 0) [0, 1, 4] (by kernel_rfl) (by kernel_rfl) (by kernel_rfl) (by kernel_rfl) (concat1_ok R1 zR1 fR1) (.cons (.slice _ _ _ _ _ (by decide)) .nil) ⟨rfl, ⟨rfl, rfl, rfl, (.cons (.slice _ _ _ _ _ (by decide)) .nil)⟩, rfl, ⟨rfl, rfl, rfl, (.flats (flats_pair _))⟩, trivial⟩ (by kernel_rfl) (by kernel_rfl) (by kernel_rfl) ⟨rfl, ⟨rfl, rfl, rfl, (.cons (.slice _ _ _ _ _ (by decide)) .nil)⟩, rfl, ⟨rfl, rfl, rfl, (.flats (flats_pair _))⟩, rfl, ⟨rfl, rfl, rfl, (.flats (flats_pair _))⟩, trivial⟩ (.slice _ _ _ _ _ (by decide))) <|
    .a 2 5 <| .nil _ _) ?_
  refine aw_bl 0 59 ?_
  refine aw_lp 119 ?_
  refine al_w [(2, .pointer (some ⟨2, 0, none⟩)), (3, .pointer (some ⟨3, 0, none⟩)), (7, .slice (some ⟨4, 0, none⟩) R1.length 0), (8, .int .i64 ((R1.length : Nat) : Int)), (9, .int .i64 ((0 : Nat) : Int))] [(0, ⟨[.slice (some ⟨1, 0, none⟩) R1.length 0], 30, true, 1⟩), (1, ⟨(R1.flatMap ptc), 28, true, 2⟩), (2, ⟨[.int .i64 0, .int .i64 0, .int .i64 0, .int .i64 0], 37, true, 4⟩), (3, ⟨[.int .i64 0, .int .i64 0, .int .i64 0, .int .i64 0], 37, true, 4⟩), (4, ⟨(R1.flatMap ptc), 28, true, 2⟩)] ?_ (hc := (by simp [closedB, valsB, valB, List.all_eq_true, List.mem_flatMap, List.mem_range, List.mem_map, i64v, ptc, flat1]; try (intros; simp [valsB, valB, flat1]); try decide))
  refine al_ind (fun i : Nat × Int × Int × Int × Int => (fun (i : Nat) (a : Int) (b : Int) (c : Int) (d : Int) => mkSt 2 [(2, .pointer (some ⟨2, 0, none⟩)), (3, .pointer (some ⟨3, 0, none⟩)), (7, .slice (some ⟨4, 0, none⟩) R1.length 0), (8, .int .i64 ((R1.length : Nat) : Int)), (9, .int .i64 ((i : Nat) : Int))] [(0, ⟨[.slice (some ⟨1, 0, none⟩) R1.length 0], 30, true, 1⟩), (1, ⟨(R1.flatMap ptc), 28, true, 2⟩), (2, ⟨[.int .i64 0, .int .i64 0, .int .i64 0, .int .i64 0], 37, true, 4⟩), (3, ⟨[.int .i64 a, .int .i64 b, .int .i64 c, .int .i64 d], 37, true, 4⟩), (4, ⟨(R1.flatMap ptc), 28, true, 2⟩)]) i.1 i.2.1 i.2.2.1 i.2.2.2.1 i.2.2.2.2) (fun i : Nat × Int × Int × Int × Int => (fun (i : Nat) (a : Int) (b : Int) (c : Int) (d : Int) => (i ≤ R1.length) ∧ (a = (Sp.bxr R1 i).1) ∧ (b = (Sp.bxr R1 i).2.1) ∧ (c = (Sp.bxr R1 i).2.2.1) ∧ (d = (Sp.bxr R1 i).2.2.2)) i.1 i.2.1 i.2.2.1 i.2.2.2.1 i.2.2.2.2) (fun i : Nat × Int × Int × Int × Int => (fun (i : Nat) (a : Int) (b : Int) (c : Int) (d : Int) => R1.length - i) i.1 i.2.1 i.2.2.1 i.2.2.2.1 i.2.2.2.2) (fun i hi1 ih1 => ?_) (0, 0, 0, 0, 0) (show (0 ≤ R1.length) ∧ (0 = (Sp.bxr R1 0).1) ∧ (0 = (Sp.bxr R1 0).2.1) ∧ (0 = (Sp.bxr R1 0).2.2.1) ∧ (0 = (Sp.bxr R1 0).2.2.2) from ⟨by omega, by rfl, by rfl, by rfl, by rfl⟩)
  obtain ⟨i, a, b, c, d⟩ := i
  have hi1' : (i ≤ R1.length) ∧ (a = (Sp.bxr R1 i).1) ∧ (b = (Sp.bxr R1 i).2.1) ∧ (c = (Sp.bxr R1 i).2.2.1) ∧ (d = (Sp.bxr R1 i).2.2.2) := hi1
  obtain ⟨hi, ha, hb, hc, hd⟩ := hi1'
  show AL _ _ _ (mkSt 2 [(2, .pointer (some ⟨2, 0, none⟩)), (3, .pointer (some ⟨3, 0, none⟩)), (7, .slice (some ⟨4, 0, none⟩) R1.length 0), (8, .int .i64 ((R1.length : Nat) : Int)), (9, .int .i64 ((i : Nat) : Int))] [(0, ⟨[.slice (some ⟨1, 0, none⟩) R1.length 0], 30, true, 1⟩), (1, ⟨(R1.flatMap ptc), 28, true, 2⟩), (2, ⟨[.int .i64 0, .int .i64 0, .int .i64 0, .int .i64 0], 37, true, 4⟩), (3, ⟨[.int .i64 a, .int .i64 b, .int .i64 c, .int .i64 d], 37, true, 4⟩), (4, ⟨(R1.flatMap ptc), 28, true, 2⟩)]) _
  refine al_round ?_
  refine aw_p 239 (
    .a 1 5 <| .nil _ _) ?_
  refine aw_sq 478 479 ?_
  refine aw_cd 956 957 (decide (((i : Nat) : Int) < ((R1.length : Nat) : Int))) (fun h1 => ?_) (fun h1 => ?_)
  · have h1p : ((((i : Nat) : Int) < ((R1.length : Nat) : Int))) := by first | (simpa using h1) | (have h1q := h1; simp at h1q; omega) | (have h1q := bx1 h1; simp at h1q; omega)
    refine aw_sk ?_
    refine then_normal ?_
    refine aw_sq 958 959 ?_
    refine aw_bl 1 1917 ?_
    refine aw_p 3835 (
      .a 1 5 <| .p (does_indexSlice (t := 30) (x := .tmp 7) (y := .tmp 9) (k := 4) (off := 0) (n := R1.length) (c := 0) (z := 2) (kd := .i64) (j := ((i : Nat) : Int)) (by kernel_rfl) (by kernel_rfl) (by kernel_rfl) (by kernel_rfl) (by kernel_rfl) (by omega) (by omega)) <|
      .p (does_load (t := 28) (x := .tmp 12) (k := 4) (off := (0 + (((i : Nat) : Int)).toNat * 2)) (b := ⟨(R1.flatMap ptc), 28, true, 2⟩) (v := .agg #[.int .i64 ((R1.getD i (0, 0)).1), .int .i64 ((R1.getD i (0, 0)).2)]) (by kernel_rfl) (by kernel_rfl) (by kernel_rfl) (ldV_pair (j := i) (by kernel_rfl) (by kernel_rfl) (by omega) (by first | omega | (simp only [List.length_append]; omega)))) <|
      .a 3 5 <| .nil _ _) ?_
    refine aw_sq 7670 7671 ?_
    refine aw_p 15341 (
      .a 2 6 <| .nil _ _) ?_
    refine aw_cd 30682 30683 (((i : Nat) : Int) == 0) (fun h2 => ?_) (fun h2 => ?_)
    · have h2p : ((((i : Nat) : Int) = 0)) := by first | (simpa using h2) | (have h2q := h2; simp at h2q; omega) | (have h2q := bx1 h2; simp at h2q; omega)
      have h0 :  i = 0 := by first | (have q := h2; simp at q; omega)
      refine aw_p1 (
        .a 4 6 <| .nil _ _) ?_
      refine then_normal ?_
      refine aw_p 15343 (
        .a 15 6 <| .nil _ _) ?_
      refine aw_p1 (
        .a 15 6 <| .nil _ _) ?_
      refine block_normal ?_
      refine then_normal ?_
      refine aw_p1 (
        .p (does_i (((i : Nat) : Int) + 1) (wrap_i64 (by omega) (by omega)) .i64) <| .a 1 6 <| .nil _ _) ?_
      refine then_normal ?_
      refine al_w [(2, .pointer (some ⟨2, 0, none⟩)), (3, .pointer (some ⟨3, 0, none⟩)), (7, .slice (some ⟨4, 0, none⟩) R1.length 0), (8, .int .i64 ((R1.length : Nat) : Int)), (9, .int .i64 (((i + 1) : Nat) : Int))] [(0, ⟨[.slice (some ⟨1, 0, none⟩) R1.length 0], 30, true, 1⟩), (1, ⟨(R1.flatMap ptc), 28, true, 2⟩), (2, ⟨[.int .i64 0, .int .i64 0, .int .i64 0, .int .i64 0], 37, true, 4⟩), (3, ⟨[.int .i64 (Sp.mn ((R1.getD i (0, 0)).1) ((R1.getD i (0, 0)).1)), .int .i64 (Sp.mn ((R1.getD i (0, 0)).2) ((R1.getD i (0, 0)).2)), .int .i64 (Sp.mx ((R1.getD i (0, 0)).1) ((R1.getD i (0, 0)).1)), .int .i64 (Sp.mx ((R1.getD i (0, 0)).2) ((R1.getD i (0, 0)).2))], 37, true, 4⟩), (4, ⟨(R1.flatMap ptc), 28, true, 2⟩)] ?_ (hc := (by simp [closedB, valsB, valB, List.all_eq_true, List.mem_flatMap, List.mem_range, List.mem_map, i64v, ptc, flat1]; try (intros; simp [valsB, valB, flat1]); try decide))
      exact ih1 ((i + 1), (Sp.mn ((R1.getD i (0, 0)).1) ((R1.getD i (0, 0)).1)), (Sp.mn ((R1.getD i (0, 0)).2) ((R1.getD i (0, 0)).2)), (Sp.mx ((R1.getD i (0, 0)).1) ((R1.getD i (0, 0)).1)), (Sp.mx ((R1.getD i (0, 0)).2) ((R1.getD i (0, 0)).2))) (show ((i + 1) ≤ R1.length) ∧ ((Sp.mn ((R1.getD i (0, 0)).1) ((R1.getD i (0, 0)).1)) = (Sp.bxr R1 (i + 1)).1) ∧ ((Sp.mn ((R1.getD i (0, 0)).2) ((R1.getD i (0, 0)).2)) = (Sp.bxr R1 (i + 1)).2.1) ∧ ((Sp.mx ((R1.getD i (0, 0)).1) ((R1.getD i (0, 0)).1)) = (Sp.bxr R1 (i + 1)).2.2.1) ∧ ((Sp.mx ((R1.getD i (0, 0)).2) ((R1.getD i (0, 0)).2)) = (Sp.bxr R1 (i + 1)).2.2.2) from ⟨by omega, by (first | (rw [Sp.bxr_0 (by assumption)]) | (rw [Sp.bxr_n (by assumption), ← ha, ← hb, ← hc, ← hd])), by (first | (rw [Sp.bxr_0 (by assumption)]) | (rw [Sp.bxr_n (by assumption), ← ha, ← hb, ← hc, ← hd])), by (first | (rw [Sp.bxr_0 (by assumption)]) | (rw [Sp.bxr_n (by assumption), ← ha, ← hb, ← hc, ← hd])), by (first | (rw [Sp.bxr_0 (by assumption)]) | (rw [Sp.bxr_n (by assumption), ← ha, ← hb, ← hc, ← hd]))⟩) (show R1.length - (i + 1) < R1.length - i from by omega)
    · have h2p : ¬ ((((i : Nat) : Int) = 0)) := by first | (simpa using h2) | (have h2q := h2; simp at h2q; omega) | (have h2q := bx2 h2; simp at h2q; omega)
      have h0 : ¬ i = 0 := by first | (have q := h2; simp at q; omega)
      refine aw_sk ?_
      refine then_normal ?_
      refine aw_p 15343 (
        .a 15 6 <| .nil _ _) ?_
      refine aw_p1 (
        .a 15 6 <| .nil _ _) ?_
      refine block_normal ?_
      refine then_normal ?_
      refine aw_p1 (
        .p (does_i (((i : Nat) : Int) + 1) (wrap_i64 (by omega) (by omega)) .i64) <| .a 1 6 <| .nil _ _) ?_
      refine then_normal ?_
      refine al_w [(2, .pointer (some ⟨2, 0, none⟩)), (3, .pointer (some ⟨3, 0, none⟩)), (7, .slice (some ⟨4, 0, none⟩) R1.length 0), (8, .int .i64 ((R1.length : Nat) : Int)), (9, .int .i64 (((i + 1) : Nat) : Int))] [(0, ⟨[.slice (some ⟨1, 0, none⟩) R1.length 0], 30, true, 1⟩), (1, ⟨(R1.flatMap ptc), 28, true, 2⟩), (2, ⟨[.int .i64 0, .int .i64 0, .int .i64 0, .int .i64 0], 37, true, 4⟩), (3, ⟨[.int .i64 (Sp.mn a ((R1.getD i (0, 0)).1)), .int .i64 (Sp.mn b ((R1.getD i (0, 0)).2)), .int .i64 (Sp.mx c ((R1.getD i (0, 0)).1)), .int .i64 (Sp.mx d ((R1.getD i (0, 0)).2))], 37, true, 4⟩), (4, ⟨(R1.flatMap ptc), 28, true, 2⟩)] ?_ (hc := (by simp [closedB, valsB, valB, List.all_eq_true, List.mem_flatMap, List.mem_range, List.mem_map, i64v, ptc, flat1]; try (intros; simp [valsB, valB, flat1]); try decide))
      exact ih1 ((i + 1), (Sp.mn a ((R1.getD i (0, 0)).1)), (Sp.mn b ((R1.getD i (0, 0)).2)), (Sp.mx c ((R1.getD i (0, 0)).1)), (Sp.mx d ((R1.getD i (0, 0)).2))) (show ((i + 1) ≤ R1.length) ∧ ((Sp.mn a ((R1.getD i (0, 0)).1)) = (Sp.bxr R1 (i + 1)).1) ∧ ((Sp.mn b ((R1.getD i (0, 0)).2)) = (Sp.bxr R1 (i + 1)).2.1) ∧ ((Sp.mx c ((R1.getD i (0, 0)).1)) = (Sp.bxr R1 (i + 1)).2.2.1) ∧ ((Sp.mx d ((R1.getD i (0, 0)).2)) = (Sp.bxr R1 (i + 1)).2.2.2) from ⟨by omega, by (first | (rw [Sp.bxr_0 (by assumption)]) | (rw [Sp.bxr_n (by assumption), ← ha, ← hb, ← hc, ← hd])), by (first | (rw [Sp.bxr_0 (by assumption)]) | (rw [Sp.bxr_n (by assumption), ← ha, ← hb, ← hc, ← hd])), by (first | (rw [Sp.bxr_0 (by assumption)]) | (rw [Sp.bxr_n (by assumption), ← ha, ← hb, ← hc, ← hd])), by (first | (rw [Sp.bxr_0 (by assumption)]) | (rw [Sp.bxr_n (by assumption), ← ha, ← hb, ← hc, ← hd]))⟩) (show R1.length - (i + 1) < R1.length - i from by omega)
  · have h1p : ¬ ((((i : Nat) : Int) < ((R1.length : Nat) : Int))) := by first | (simpa using h1) | (have h1q := h1; simp at h1q; omega) | (have h1q := bx2 h1; simp at h1q; omega)
    have hl : i = R1.length := by omega
    have ha' : a = (Sp.bxr R1 R1.length).1 := by rw [ha, hl]
    have hb' : b = (Sp.bxr R1 R1.length).2.1 := by rw [hb, hl]
    have hc' : c = (Sp.bxr R1 R1.length).2.2.1 := by rw [hc, hl]
    have hd' : d = (Sp.bxr R1 R1.length).2.2.2 := by rw [hd, hl]
    refine aw_ex 0 ?_
    refine then_exit ?_
    refine then_exit ?_
    refine block_exit ?_
    refine then_normal ?_
    refine aw_p 31 (
      .a 2 5 <| .nil _ _) ?_
    refine aw_rt ?_
    exact en_ret [.agg #[.int .i64 a, .int .i64 b, .int .i64 c, .int .i64 d]] (show (.agg #[.int .i64 a, .int .i64 b, .int .i64 c, .int .i64 d] : Value) = (.agg #[.int .i64 ((Sp.bxr R1 R1.length).1), .int .i64 ((Sp.bxr R1 R1.length).2.1), .int .i64 ((Sp.bxr R1 R1.length).2.2.1), .int .i64 ((Sp.bxr R1 R1.length).2.2.2)]) from (congrArg (fun z : List Value => Value.agg z.toArray) (lcons (congrArg (Value.int .i64) (show a = ((Sp.bxr R1 R1.length).1) from by (first | exact ha' | exact hb' | exact hc' | exact hd'))) (lcons (congrArg (Value.int .i64) (show b = ((Sp.bxr R1 R1.length).2.1) from by (first | exact ha' | exact hb' | exact hc' | exact hd'))) (lcons (congrArg (Value.int .i64) (show c = ((Sp.bxr R1 R1.length).2.2.1) from by (first | exact ha' | exact hb' | exact hc' | exact hd'))) (lcons (congrArg (Value.int .i64) (show d = ((Sp.bxr R1 R1.length).2.2.2) from by (first | exact ha' | exact hb' | exact hc' | exact hd'))) rfl))))))

theorem abox_2 (R1 R2 : List (Int × Int)) (zR1 : 1 ≤ R1.length ∧ R1.length ≤ 200) (fR1 : Sp.Few 1000 R1) (zR2 : 1 ≤ R2.length ∧ R2.length ≤ 200) (fR2 : Sp.Few 1000 R2) :
    AC Try.prog 16 3 ([.slice (some ⟨0, 0, none⟩) 2 0]) [(0, ⟨[.slice (some ⟨1, 0, none⟩) R1.length 0, .slice (some ⟨2, 0, none⟩) R2.length 0], 30, true, 1⟩), (1, ⟨(R1.flatMap ptc), 28, true, 2⟩), (2, ⟨(R2.flatMap ptc), 28, true, 2⟩)] (.agg #[.int .i64 ((Sp.bxr (R1 ++ R2) ((R1 ++ R2).length)).1), .int .i64 ((Sp.bxr (R1 ++ R2) ((R1 ++ R2).length)).2.1), .int .i64 ((Sp.bxr (R1 ++ R2) ((R1 ++ R2).length)).2.2.1), .int .i64 ((Sp.bxr (R1 ++ R2) ((R1 ++ R2).length)).2.2.2)]) [(0, ⟨[.slice (some ⟨1, 0, none⟩) R1.length 0, .slice (some ⟨2, 0, none⟩) R2.length 0], 30, true, 1⟩), (1, ⟨(R1.flatMap ptc), 28, true, 2⟩), (2, ⟨(R2.flatMap ptc), 28, true, 2⟩)] := by
  have hN : (R1 ++ R2).length = (R1.length + R2.length) := by simp only [List.length_append]
  refine ac_in Try.func16 (fun w0 W pin => ?_)
  refine aw_p 3 (
    .a 1 3 <| .nil _ _) ?_
  refine aw_p 7 (
    .a 1 4 <| .nil _ _) ?_
  refine aw_sq 14 15 ?_
  refine aw_p 29 (
    .a 1 5 <|
    .p (does_callB (x := .func 25) (ars := #[.tmp 6]) (ats := #[24]) (g := 25) (vs := [.slice (some ⟨0, 0, none⟩) 2 0]) (m := 3) (r := 1) (firsts := #[]) (caps := #[]) (args0 := [.slice (some ⟨0, 0, none⟩) 2 0]) (pre0 := [(0, ⟨[.slice (some ⟨1, 0, none⟩) R1.length 0, .slice (some ⟨2, 0, none⟩) R2.length 0], 30, true, 1⟩), (1, ⟨(R1.flatMap ptc), 28, true, 2⟩), (2, ⟨(R2.flatMap ptc), 28, true, 2⟩)]) (post0 := [(0, ⟨[.slice (some ⟨1, 0, none⟩) R1.length 0, .slice (some ⟨2, 0, none⟩) R2.length 0], 30, true, 1⟩), (1, ⟨(R1.flatMap ptc), 28, true, 2⟩), (2, ⟨(R2.flatMap ptc), 28, true, 2⟩), (3, ⟨((R1 ++ R2).flatMap ptc), 28, true, 2⟩)]) (pre := [(0, ⟨[.slice (some ⟨1, 0, none⟩) R1.length 0, .slice (some ⟨2, 0, none⟩) R2.length 0], 30, true, 1⟩), (1, ⟨(R1.flatMap ptc), 28, true, 2⟩), (2, ⟨(R2.flatMap ptc), 28, true, 2⟩)]) (post := [(0, ⟨[.slice (some ⟨1, 0, none⟩) R1.length 0, .slice (some ⟨2, 0, none⟩) R2.length 0], 30, true, 1⟩), (1, ⟨(R1.flatMap ptc), 28, true, 2⟩), (2, ⟨(R2.flatMap ptc), 28, true, 2⟩), (5, ⟨((R1 ++ R2).flatMap ptc), 28, true, 2⟩)]) (v0 := .slice (some ⟨3, 0, none⟩) (R1.length + R2.length) 0) (v := .slice (some ⟨5, 0, none⟩) (R1.length + R2.length) 0) [0, 1, 2, 5] (by kernel_rfl) (by kernel_rfl) (by kernel_rfl) (by kernel_rfl) (concat2_ok R1 R2 zR1 fR1 zR2 fR2) (.cons (.slice _ _ _ _ _ (by decide)) .nil) ⟨rfl, ⟨rfl, rfl, rfl, (.cons (.slice _ _ _ _ _ (by decide)) (.cons (.slice _ _ _ _ _ (by decide)) .nil))⟩, rfl, ⟨rfl, rfl, rfl, (.flats (flats_pair _))⟩, rfl, ⟨rfl, rfl, rfl, (.flats (flats_pair _))⟩, trivial⟩ (by kernel_rfl) (by kernel_rfl) (by kernel_rfl) ⟨rfl, ⟨rfl, rfl, rfl, (.cons (.slice _ _ _ _ _ (by decide)) (.cons (.slice _ _ _ _ _ (by decide)) .nil))⟩, rfl, ⟨rfl, rfl, rfl, (.flats (flats_pair _))⟩, rfl, ⟨rfl, rfl, rfl, (.flats (flats_pair _))⟩, rfl, ⟨rfl, rfl, rfl, (.flats (flats_pair _))⟩, trivial⟩ (.slice _ _ _ _ _ (by decide))) <|
    .a 2 6 <| .nil _ _) ?_
  refine aw_bl 0 59 ?_
  refine aw_lp 119 ?_
  refine al_w [(2, .pointer (some ⟨3, 0, none⟩)), (3, .pointer (some ⟨4, 0, none⟩)), (7, .slice (some ⟨5, 0, none⟩) (R1.length + R2.length) 0), (8, .int .i64 (((R1.length + R2.length) : Nat) : Int)), (9, .int .i64 ((0 : Nat) : Int))] [(0, ⟨[.slice (some ⟨1, 0, none⟩) R1.length 0, .slice (some ⟨2, 0, none⟩) R2.length 0], 30, true, 1⟩), (1, ⟨(R1.flatMap ptc), 28, true, 2⟩), (2, ⟨(R2.flatMap ptc), 28, true, 2⟩), (3, ⟨[.int .i64 0, .int .i64 0, .int .i64 0, .int .i64 0], 37, true, 4⟩), (4, ⟨[.int .i64 0, .int .i64 0, .int .i64 0, .int .i64 0], 37, true, 4⟩), (5, ⟨((R1 ++ R2).flatMap ptc), 28, true, 2⟩)] ?_ (hc := (by simp [closedB, valsB, valB, List.all_eq_true, List.mem_flatMap, List.mem_range, List.mem_map, i64v, ptc, flat1]; try (intros; simp [valsB, valB, flat1]); try decide))
  refine al_ind (fun i : Nat × Int × Int × Int × Int => (fun (i : Nat) (a : Int) (b : Int) (c : Int) (d : Int) => mkSt 3 [(2, .pointer (some ⟨3, 0, none⟩)), (3, .pointer (some ⟨4, 0, none⟩)), (7, .slice (some ⟨5, 0, none⟩) (R1.length + R2.length) 0), (8, .int .i64 (((R1.length + R2.length) : Nat) : Int)), (9, .int .i64 ((i : Nat) : Int))] [(0, ⟨[.slice (some ⟨1, 0, none⟩) R1.length 0, .slice (some ⟨2, 0, none⟩) R2.length 0], 30, true, 1⟩), (1, ⟨(R1.flatMap ptc), 28, true, 2⟩), (2, ⟨(R2.flatMap ptc), 28, true, 2⟩), (3, ⟨[.int .i64 0, .int .i64 0, .int .i64 0, .int .i64 0], 37, true, 4⟩), (4, ⟨[.int .i64 a, .int .i64 b, .int .i64 c, .int .i64 d], 37, true, 4⟩), (5, ⟨((R1 ++ R2).flatMap ptc), 28, true, 2⟩)]) i.1 i.2.1 i.2.2.1 i.2.2.2.1 i.2.2.2.2) (fun i : Nat × Int × Int × Int × Int => (fun (i : Nat) (a : Int) (b : Int) (c : Int) (d : Int) => (i ≤ (R1.length + R2.length)) ∧ (a = (Sp.bxr (R1 ++ R2) i).1) ∧ (b = (Sp.bxr (R1 ++ R2) i).2.1) ∧ (c = (Sp.bxr (R1 ++ R2) i).2.2.1) ∧ (d = (Sp.bxr (R1 ++ R2) i).2.2.2)) i.1 i.2.1 i.2.2.1 i.2.2.2.1 i.2.2.2.2) (fun i : Nat × Int × Int × Int × Int => (fun (i : Nat) (a : Int) (b : Int) (c : Int) (d : Int) => (R1.length + R2.length) - i) i.1 i.2.1 i.2.2.1 i.2.2.2.1 i.2.2.2.2) (fun i hi1 ih1 => ?_) (0, 0, 0, 0, 0) (show (0 ≤ (R1.length + R2.length)) ∧ (0 = (Sp.bxr (R1 ++ R2) 0).1) ∧ (0 = (Sp.bxr (R1 ++ R2) 0).2.1) ∧ (0 = (Sp.bxr (R1 ++ R2) 0).2.2.1) ∧ (0 = (Sp.bxr (R1 ++ R2) 0).2.2.2) from ⟨by omega, by rfl, by rfl, by rfl, by rfl⟩)
  obtain ⟨i, a, b, c, d⟩ := i
  have hi1' : (i ≤ (R1.length + R2.length)) ∧ (a = (Sp.bxr (R1 ++ R2) i).1) ∧ (b = (Sp.bxr (R1 ++ R2) i).2.1) ∧ (c = (Sp.bxr (R1 ++ R2) i).2.2.1) ∧ (d = (Sp.bxr (R1 ++ R2) i).2.2.2) := hi1
  obtain ⟨hi, ha, hb, hc, hd⟩ := hi1'
  show AL _ _ _ (mkSt 3 [(2, .pointer (some ⟨3, 0, none⟩)), (3, .pointer (some ⟨4, 0, none⟩)), (7, .slice (some ⟨5, 0, none⟩) (R1.length + R2.length) 0), (8, .int .i64 (((R1.length + R2.length) : Nat) : Int)), (9, .int .i64 ((i : Nat) : Int))] [(0, ⟨[.slice (some ⟨1, 0, none⟩) R1.length 0, .slice (some ⟨2, 0, none⟩) R2.length 0], 30, true, 1⟩), (1, ⟨(R1.flatMap ptc), 28, true, 2⟩), (2, ⟨(R2.flatMap ptc), 28, true, 2⟩), (3, ⟨[.int .i64 0, .int .i64 0, .int .i64 0, .int .i64 0], 37, true, 4⟩), (4, ⟨[.int .i64 a, .int .i64 b, .int .i64 c, .int .i64 d], 37, true, 4⟩), (5, ⟨((R1 ++ R2).flatMap ptc), 28, true, 2⟩)]) _
  refine al_round ?_
  refine aw_p 239 (
    .a 1 6 <| .nil _ _) ?_
  refine aw_sq 478 479 ?_
  refine aw_cd 956 957 (decide (((i : Nat) : Int) < (((R1.length + R2.length) : Nat) : Int))) (fun h1 => ?_) (fun h1 => ?_)
  · have h1p : ((((i : Nat) : Int) < (((R1.length + R2.length) : Nat) : Int))) := by first | (simpa using h1) | (have h1q := h1; simp at h1q; omega) | (have h1q := bx1 h1; simp at h1q; omega)
    refine aw_sk ?_
    refine then_normal ?_
    refine aw_sq 958 959 ?_
    refine aw_bl 1 1917 ?_
    refine aw_p 3835 (
      .a 1 6 <| .p (does_indexSlice (t := 30) (x := .tmp 7) (y := .tmp 9) (k := 5) (off := 0) (n := (R1.length + R2.length)) (c := 0) (z := 2) (kd := .i64) (j := ((i : Nat) : Int)) (by kernel_rfl) (by kernel_rfl) (by kernel_rfl) (by kernel_rfl) (by kernel_rfl) (by omega) (by omega)) <|
      .p (does_load (t := 28) (x := .tmp 12) (k := 5) (off := (0 + (((i : Nat) : Int)).toNat * 2)) (b := ⟨((R1 ++ R2).flatMap ptc), 28, true, 2⟩) (v := .agg #[.int .i64 (((R1 ++ R2).getD i (0, 0)).1), .int .i64 (((R1 ++ R2).getD i (0, 0)).2)]) (by kernel_rfl) (by kernel_rfl) (by kernel_rfl) (ldV_pair (j := i) (by kernel_rfl) (by kernel_rfl) (by omega) (by first | omega | (simp only [List.length_append]; omega)))) <|
      .a 3 6 <| .nil _ _) ?_
    refine aw_sq 7670 7671 ?_
    refine aw_p 15341 (
      .a 2 7 <| .nil _ _) ?_
    refine aw_cd 30682 30683 (((i : Nat) : Int) == 0) (fun h2 => ?_) (fun h2 => ?_)
    · have h2p : ((((i : Nat) : Int) = 0)) := by first | (simpa using h2) | (have h2q := h2; simp at h2q; omega) | (have h2q := bx1 h2; simp at h2q; omega)
      have h0 :  i = 0 := by first | (have q := h2; simp at q; omega)
      refine aw_p1 (
        .a 4 7 <| .nil _ _) ?_
      refine then_normal ?_
      refine aw_p 15343 (
        .a 15 7 <| .nil _ _) ?_
      refine aw_p1 (
        .a 15 7 <| .nil _ _) ?_
      refine block_normal ?_
      refine then_normal ?_
      refine aw_p1 (
        .p (does_i (((i : Nat) : Int) + 1) (wrap_i64 (by omega) (by omega)) .i64) <| .a 1 7 <| .nil _ _) ?_
      refine then_normal ?_
      refine al_w [(2, .pointer (some ⟨3, 0, none⟩)), (3, .pointer (some ⟨4, 0, none⟩)), (7, .slice (some ⟨5, 0, none⟩) (R1.length + R2.length) 0), (8, .int .i64 (((R1.length + R2.length) : Nat) : Int)), (9, .int .i64 (((i + 1) : Nat) : Int))] [(0, ⟨[.slice (some ⟨1, 0, none⟩) R1.length 0, .slice (some ⟨2, 0, none⟩) R2.length 0], 30, true, 1⟩), (1, ⟨(R1.flatMap ptc), 28, true, 2⟩), (2, ⟨(R2.flatMap ptc), 28, true, 2⟩), (3, ⟨[.int .i64 0, .int .i64 0, .int .i64 0, .int .i64 0], 37, true, 4⟩), (4, ⟨[.int .i64 (Sp.mn (((R1 ++ R2).getD i (0, 0)).1) (((R1 ++ R2).getD i (0, 0)).1)), .int .i64 (Sp.mn (((R1 ++ R2).getD i (0, 0)).2) (((R1 ++ R2).getD i (0, 0)).2)), .int .i64 (Sp.mx (((R1 ++ R2).getD i (0, 0)).1) (((R1 ++ R2).getD i (0, 0)).1)), .int .i64 (Sp.mx (((R1 ++ R2).getD i (0, 0)).2) (((R1 ++ R2).getD i (0, 0)).2))], 37, true, 4⟩), (5, ⟨((R1 ++ R2).flatMap ptc), 28, true, 2⟩)] ?_ (hc := (by simp [closedB, valsB, valB, List.all_eq_true, List.mem_flatMap, List.mem_range, List.mem_map, i64v, ptc, flat1]; try (intros; simp [valsB, valB, flat1]); try decide))
      exact ih1 ((i + 1), (Sp.mn (((R1 ++ R2).getD i (0, 0)).1) (((R1 ++ R2).getD i (0, 0)).1)), (Sp.mn (((R1 ++ R2).getD i (0, 0)).2) (((R1 ++ R2).getD i (0, 0)).2)), (Sp.mx (((R1 ++ R2).getD i (0, 0)).1) (((R1 ++ R2).getD i (0, 0)).1)), (Sp.mx (((R1 ++ R2).getD i (0, 0)).2) (((R1 ++ R2).getD i (0, 0)).2))) (show ((i + 1) ≤ (R1.length + R2.length)) ∧ ((Sp.mn (((R1 ++ R2).getD i (0, 0)).1) (((R1 ++ R2).getD i (0, 0)).1)) = (Sp.bxr (R1 ++ R2) (i + 1)).1) ∧ ((Sp.mn (((R1 ++ R2).getD i (0, 0)).2) (((R1 ++ R2).getD i (0, 0)).2)) = (Sp.bxr (R1 ++ R2) (i + 1)).2.1) ∧ ((Sp.mx (((R1 ++ R2).getD i (0, 0)).1) (((R1 ++ R2).getD i (0, 0)).1)) = (Sp.bxr (R1 ++ R2) (i + 1)).2.2.1) ∧ ((Sp.mx (((R1 ++ R2).getD i (0, 0)).2) (((R1 ++ R2).getD i (0, 0)).2)) = (Sp.bxr (R1 ++ R2) (i + 1)).2.2.2) from ⟨by omega, by (first | (rw [Sp.bxr_0 (by assumption)]) | (rw [Sp.bxr_n (by assumption), ← ha, ← hb, ← hc, ← hd])), by (first | (rw [Sp.bxr_0 (by assumption)]) | (rw [Sp.bxr_n (by assumption), ← ha, ← hb, ← hc, ← hd])), by (first | (rw [Sp.bxr_0 (by assumption)]) | (rw [Sp.bxr_n (by assumption), ← ha, ← hb, ← hc, ← hd])), by (first | (rw [Sp.bxr_0 (by assumption)]) | (rw [Sp.bxr_n (by assumption), ← ha, ← hb, ← hc, ← hd]))⟩) (show (R1.length + R2.length) - (i + 1) < (R1.length + R2.length) - i from by omega)
    · have h2p : ¬ ((((i : Nat) : Int) = 0)) := by first | (simpa using h2) | (have h2q := h2; simp at h2q; omega) | (have h2q := bx2 h2; simp at h2q; omega)
      have h0 : ¬ i = 0 := by first | (have q := h2; simp at q; omega)
      refine aw_sk ?_
      refine then_normal ?_
      refine aw_p 15343 (
        .a 15 7 <| .nil _ _) ?_
      refine aw_p1 (
        .a 15 7 <| .nil _ _) ?_
      refine block_normal ?_
      refine then_normal ?_
      refine aw_p1 (
        .p (does_i (((i : Nat) : Int) + 1) (wrap_i64 (by omega) (by omega)) .i64) <| .a 1 7 <| .nil _ _) ?_
      refine then_normal ?_
      refine al_w [(2, .pointer (some ⟨3, 0, none⟩)), (3, .pointer (some ⟨4, 0, none⟩)), (7, .slice (some ⟨5, 0, none⟩) (R1.length + R2.length) 0), (8, .int .i64 (((R1.length + R2.length) : Nat) : Int)), (9, .int .i64 (((i + 1) : Nat) : Int))] [(0, ⟨[.slice (some ⟨1, 0, none⟩) R1.length 0, .slice (some ⟨2, 0, none⟩) R2.length 0], 30, true, 1⟩), (1, ⟨(R1.flatMap ptc), 28, true, 2⟩), (2, ⟨(R2.flatMap ptc), 28, true, 2⟩), (3, ⟨[.int .i64 0, .int .i64 0, .int .i64 0, .int .i64 0], 37, true, 4⟩), (4, ⟨[.int .i64 (Sp.mn a (((R1 ++ R2).getD i (0, 0)).1)), .int .i64 (Sp.mn b (((R1 ++ R2).getD i (0, 0)).2)), .int .i64 (Sp.mx c (((R1 ++ R2).getD i (0, 0)).1)), .int .i64 (Sp.mx d (((R1 ++ R2).getD i (0, 0)).2))], 37, true, 4⟩), (5, ⟨((R1 ++ R2).flatMap ptc), 28, true, 2⟩)] ?_ (hc := (by simp [closedB, valsB, valB, List.all_eq_true, List.mem_flatMap, List.mem_range, List.mem_map, i64v, ptc, flat1]; try (intros; simp [valsB, valB, flat1]); try decide))
      exact ih1 ((i + 1), (Sp.mn a (((R1 ++ R2).getD i (0, 0)).1)), (Sp.mn b (((R1 ++ R2).getD i (0, 0)).2)), (Sp.mx c (((R1 ++ R2).getD i (0, 0)).1)), (Sp.mx d (((R1 ++ R2).getD i (0, 0)).2))) (show ((i + 1) ≤ (R1.length + R2.length)) ∧ ((Sp.mn a (((R1 ++ R2).getD i (0, 0)).1)) = (Sp.bxr (R1 ++ R2) (i + 1)).1) ∧ ((Sp.mn b (((R1 ++ R2).getD i (0, 0)).2)) = (Sp.bxr (R1 ++ R2) (i + 1)).2.1) ∧ ((Sp.mx c (((R1 ++ R2).getD i (0, 0)).1)) = (Sp.bxr (R1 ++ R2) (i + 1)).2.2.1) ∧ ((Sp.mx d (((R1 ++ R2).getD i (0, 0)).2)) = (Sp.bxr (R1 ++ R2) (i + 1)).2.2.2) from ⟨by omega, by (first | (rw [Sp.bxr_0 (by assumption)]) | (rw [Sp.bxr_n (by assumption), ← ha, ← hb, ← hc, ← hd])), by (first | (rw [Sp.bxr_0 (by assumption)]) | (rw [Sp.bxr_n (by assumption), ← ha, ← hb, ← hc, ← hd])), by (first | (rw [Sp.bxr_0 (by assumption)]) | (rw [Sp.bxr_n (by assumption), ← ha, ← hb, ← hc, ← hd])), by (first | (rw [Sp.bxr_0 (by assumption)]) | (rw [Sp.bxr_n (by assumption), ← ha, ← hb, ← hc, ← hd]))⟩) (show (R1.length + R2.length) - (i + 1) < (R1.length + R2.length) - i from by omega)
  · have h1p : ¬ ((((i : Nat) : Int) < (((R1.length + R2.length) : Nat) : Int))) := by first | (simpa using h1) | (have h1q := h1; simp at h1q; omega) | (have h1q := bx2 h1; simp at h1q; omega)
    have hl : i = (R1 ++ R2).length := by omega
    have ha' : a = (Sp.bxr (R1 ++ R2) ((R1 ++ R2).length)).1 := by rw [ha, hl]
    have hb' : b = (Sp.bxr (R1 ++ R2) ((R1 ++ R2).length)).2.1 := by rw [hb, hl]
    have hc' : c = (Sp.bxr (R1 ++ R2) ((R1 ++ R2).length)).2.2.1 := by rw [hc, hl]
    have hd' : d = (Sp.bxr (R1 ++ R2) ((R1 ++ R2).length)).2.2.2 := by rw [hd, hl]
    refine aw_ex 0 ?_
    refine then_exit ?_
    refine then_exit ?_
    refine block_exit ?_
    refine then_normal ?_
    refine aw_p 31 (
      .a 2 6 <| .nil _ _) ?_
    refine aw_rt ?_
    exact en_ret [.agg #[.int .i64 a, .int .i64 b, .int .i64 c, .int .i64 d]] (show (.agg #[.int .i64 a, .int .i64 b, .int .i64 c, .int .i64 d] : Value) = (.agg #[.int .i64 ((Sp.bxr (R1 ++ R2) ((R1 ++ R2).length)).1), .int .i64 ((Sp.bxr (R1 ++ R2) ((R1 ++ R2).length)).2.1), .int .i64 ((Sp.bxr (R1 ++ R2) ((R1 ++ R2).length)).2.2.1), .int .i64 ((Sp.bxr (R1 ++ R2) ((R1 ++ R2).length)).2.2.2)]) from (congrArg (fun z : List Value => Value.agg z.toArray) (lcons (congrArg (Value.int .i64) (show a = ((Sp.bxr (R1 ++ R2) ((R1 ++ R2).length)).1) from by (first | exact ha' | exact hb' | exact hc' | exact hd'))) (lcons (congrArg (Value.int .i64) (show b = ((Sp.bxr (R1 ++ R2) ((R1 ++ R2).length)).2.1) from by (first | exact ha' | exact hb' | exact hc' | exact hd'))) (lcons (congrArg (Value.int .i64) (show c = ((Sp.bxr (R1 ++ R2) ((R1 ++ R2).length)).2.2.1) from by (first | exact ha' | exact hb' | exact hc' | exact hd'))) (lcons (congrArg (Value.int .i64) (show d = ((Sp.bxr (R1 ++ R2) ((R1 ++ R2).length)).2.2.2) from by (first | exact ha' | exact hb' | exact hc' | exact hd'))) rfl))))))

theorem abox_3 (R1 R2 R3 : List (Int × Int)) (zR1 : 1 ≤ R1.length ∧ R1.length ≤ 200) (fR1 : Sp.Few 1000 R1) (zR2 : 1 ≤ R2.length ∧ R2.length ≤ 200) (fR2 : Sp.Few 1000 R2) (zR3 : 1 ≤ R3.length ∧ R3.length ≤ 200) (fR3 : Sp.Few 1000 R3) :
    AC Try.prog 16 4 ([.slice (some ⟨0, 0, none⟩) 3 0]) [(0, ⟨[.slice (some ⟨1, 0, none⟩) R1.length 0, .slice (some ⟨2, 0, none⟩) R2.length 0, .slice (some ⟨3, 0, none⟩) R3.length 0], 30, true, 1⟩), (1, ⟨(R1.flatMap ptc), 28, true, 2⟩), (2, ⟨(R2.flatMap ptc), 28, true, 2⟩), (3, ⟨(R3.flatMap ptc), 28, true, 2⟩)] (.agg #[.int .i64 ((Sp.bxr ((R1 ++ R2) ++ R3) (((R1 ++ R2) ++ R3).length)).1), .int .i64 ((Sp.bxr ((R1 ++ R2) ++ R3) (((R1 ++ R2) ++ R3).length)).2.1), .int .i64 ((Sp.bxr ((R1 ++ R2) ++ R3) (((R1 ++ R2) ++ R3).length)).2.2.1), .int .i64 ((Sp.bxr ((R1 ++ R2) ++ R3) (((R1 ++ R2) ++ R3).length)).2.2.2)]) [(0, ⟨[.slice (some ⟨1, 0, none⟩) R1.length 0, .slice (some ⟨2, 0, none⟩) R2.length 0, .slice (some ⟨3, 0, none⟩) R3.length 0], 30, true, 1⟩), (1, ⟨(R1.flatMap ptc), 28, true, 2⟩), (2, ⟨(R2.flatMap ptc), 28, true, 2⟩), (3, ⟨(R3.flatMap ptc), 28, true, 2⟩)] := by
  have hN : ((R1 ++ R2) ++ R3).length = (R1.length + R2.length + R3.length) := by simp only [List.length_append]
  refine ac_in Try.func16 (fun w0 W pin => ?_)
  refine aw_p 3 (
    .a 1 4 <| .nil _ _) ?_
  refine aw_p 7 (
    .a 1 5 <| .nil _ _) ?_
  refine aw_sq 14 15 ?_
  refine aw_p 29 (
    .a 1 6 <|
    .p (does_callB (x := .func 25) (ars := #[.tmp 6]) (ats := #[24]) (g := 25) (vs := [.slice (some ⟨0, 0, none⟩) 3 0]) (m := 4) (r := 1) (firsts := #[]) (caps := #[]) (args0 := [.slice (some ⟨0, 0, none⟩) 3 0]) (pre0 := [(0, ⟨[.slice (some ⟨1, 0, none⟩) R1.length 0, .slice (some ⟨2, 0, none⟩) R2.length 0, .slice (some ⟨3, 0, none⟩) R3.length 0], 30, true, 1⟩), (1, ⟨(R1.flatMap ptc), 28, true, 2⟩), (2, ⟨(R2.flatMap ptc), 28, true, 2⟩), (3, ⟨(R3.flatMap ptc), 28, true, 2⟩)]) (post0 := [(0, ⟨[.slice (some ⟨1, 0, none⟩) R1.length 0, .slice (some ⟨2, 0, none⟩) R2.length 0, .slice (some ⟨3, 0, none⟩) R3.length 0], 30, true, 1⟩), (1, ⟨(R1.flatMap ptc), 28, true, 2⟩), (2, ⟨(R2.flatMap ptc), 28, true, 2⟩), (3, ⟨(R3.flatMap ptc), 28, true, 2⟩), (4, ⟨(((R1 ++ R2) ++ R3).flatMap ptc), 28, true, 2⟩)]) (pre := [(0, ⟨[.slice (some ⟨1, 0, none⟩) R1.length 0, .slice (some ⟨2, 0, none⟩) R2.length 0, .slice (some ⟨3, 0, none⟩) R3.length 0], 30, true, 1⟩), (1, ⟨(R1.flatMap ptc), 28, true, 2⟩), (2, ⟨(R2.flatMap ptc), 28, true, 2⟩), (3, ⟨(R3.flatMap ptc), 28, true, 2⟩)]) (post := [(0, ⟨[.slice (some ⟨1, 0, none⟩) R1.length 0, .slice (some ⟨2, 0, none⟩) R2.length 0, .slice (some ⟨3, 0, none⟩) R3.length 0], 30, true, 1⟩), (1, ⟨(R1.flatMap ptc), 28, true, 2⟩), (2, ⟨(R2.flatMap ptc), 28, true, 2⟩), (3, ⟨(R3.flatMap ptc), 28, true, 2⟩), (6, ⟨(((R1 ++ R2) ++ R3).flatMap ptc), 28, true, 2⟩)]) (v0 := .slice (some ⟨4, 0, none⟩) (R1.length + R2.length + R3.length) 0) (v := .slice (some ⟨6, 0, none⟩) (R1.length + R2.length + R3.length) 0) [0, 1, 2, 3, 6] (by kernel_rfl) (by kernel_rfl) (by kernel_rfl) (by kernel_rfl) (concat3_ok R1 R2 R3 zR1 fR1 zR2 fR2 zR3 fR3) (.cons (.slice _ _ _ _ _ (by decide)) .nil) ⟨rfl, ⟨rfl, rfl, rfl, (.cons (.slice _ _ _ _ _ (by decide)) (.cons (.slice _ _ _ _ _ (by decide)) (.cons (.slice _ _ _ _ _ (by decide)) .nil)))⟩, rfl, ⟨rfl, rfl, rfl, (.flats (flats_pair _))⟩, rfl, ⟨rfl, rfl, rfl, (.flats (flats_pair _))⟩, rfl, ⟨rfl, rfl, rfl, (.flats (flats_pair _))⟩, trivial⟩ (by kernel_rfl) (by kernel_rfl) (by kernel_rfl) ⟨rfl, ⟨rfl, rfl, rfl, (.cons (.slice _ _ _ _ _ (by decide)) (.cons (.slice _ _ _ _ _ (by decide)) (.cons (.slice _ _ _ _ _ (by decide)) .nil)))⟩, rfl, ⟨rfl, rfl, rfl, (.flats (flats_pair _))⟩, rfl, ⟨rfl, rfl, rfl, (.flats (flats_pair _))⟩, rfl, ⟨rfl, rfl, rfl, (.flats (flats_pair _))⟩, rfl, ⟨rfl, rfl, rfl, (.flats (flats_pair _))⟩, trivial⟩ (.slice _ _ _ _ _ (by decide))) <|
    .a 2 7 <| .nil _ _) ?_
  refine aw_bl 0 59 ?_
  refine aw_lp 119 ?_
  refine al_w [(2, .pointer (some ⟨4, 0, none⟩)), (3, .pointer (some ⟨5, 0, none⟩)), (7, .slice (some ⟨6, 0, none⟩) (R1.length + R2.length + R3.length) 0), (8, .int .i64 (((R1.length + R2.length + R3.length) : Nat) : Int)), (9, .int .i64 ((0 : Nat) : Int))] [(0, ⟨[.slice (some ⟨1, 0, none⟩) R1.length 0, .slice (some ⟨2, 0, none⟩) R2.length 0, .slice (some ⟨3, 0, none⟩) R3.length 0], 30, true, 1⟩), (1, ⟨(R1.flatMap ptc), 28, true, 2⟩), (2, ⟨(R2.flatMap ptc), 28, true, 2⟩), (3, ⟨(R3.flatMap ptc), 28, true, 2⟩), (4, ⟨[.int .i64 0, .int .i64 0, .int .i64 0, .int .i64 0], 37, true, 4⟩), (5, ⟨[.int .i64 0, .int .i64 0, .int .i64 0, .int .i64 0], 37, true, 4⟩), (6, ⟨(((R1 ++ R2) ++ R3).flatMap ptc), 28, true, 2⟩)] ?_ (hc := (by simp [closedB, valsB, valB, List.all_eq_true, List.mem_flatMap, List.mem_range, List.mem_map, i64v, ptc, flat1]; try (intros; simp [valsB, valB, flat1]); try decide))
  refine al_ind (fun i : Nat × Int × Int × Int × Int => (fun (i : Nat) (a : Int) (b : Int) (c : Int) (d : Int) => mkSt 4 [(2, .pointer (some ⟨4, 0, none⟩)), (3, .pointer (some ⟨5, 0, none⟩)), (7, .slice (some ⟨6, 0, none⟩) (R1.length + R2.length + R3.length) 0), (8, .int .i64 (((R1.length + R2.length + R3.length) : Nat) : Int)), (9, .int .i64 ((i : Nat) : Int))] [(0, ⟨[.slice (some ⟨1, 0, none⟩) R1.length 0, .slice (some ⟨2, 0, none⟩) R2.length 0, .slice (some ⟨3, 0, none⟩) R3.length 0], 30, true, 1⟩), (1, ⟨(R1.flatMap ptc), 28, true, 2⟩), (2, ⟨(R2.flatMap ptc), 28, true, 2⟩), (3, ⟨(R3.flatMap ptc), 28, true, 2⟩), (4, ⟨[.int .i64 0, .int .i64 0, .int .i64 0, .int .i64 0], 37, true, 4⟩), (5, ⟨[.int .i64 a, .int .i64 b, .int .i64 c, .int .i64 d], 37, true, 4⟩), (6, ⟨(((R1 ++ R2) ++ R3).flatMap ptc), 28, true, 2⟩)]) i.1 i.2.1 i.2.2.1 i.2.2.2.1 i.2.2.2.2) (fun i : Nat × Int × Int × Int × Int => (fun (i : Nat) (a : Int) (b : Int) (c : Int) (d : Int) => (i ≤ (R1.length + R2.length + R3.length)) ∧ (a = (Sp.bxr ((R1 ++ R2) ++ R3) i).1) ∧ (b = (Sp.bxr ((R1 ++ R2) ++ R3) i).2.1) ∧ (c = (Sp.bxr ((R1 ++ R2) ++ R3) i).2.2.1) ∧ (d = (Sp.bxr ((R1 ++ R2) ++ R3) i).2.2.2)) i.1 i.2.1 i.2.2.1 i.2.2.2.1 i.2.2.2.2) (fun i : Nat × Int × Int × Int × Int => (fun (i : Nat) (a : Int) (b : Int) (c : Int) (d : Int) => (R1.length + R2.length + R3.length) - i) i.1 i.2.1 i.2.2.1 i.2.2.2.1 i.2.2.2.2) (fun i hi1 ih1 => ?_) (0, 0, 0, 0, 0) (show (0 ≤ (R1.length + R2.length + R3.length)) ∧ (0 = (Sp.bxr ((R1 ++ R2) ++ R3) 0).1) ∧ (0 = (Sp.bxr ((R1 ++ R2) ++ R3) 0).2.1) ∧ (0 = (Sp.bxr ((R1 ++ R2) ++ R3) 0).2.2.1) ∧ (0 = (Sp.bxr ((R1 ++ R2) ++ R3) 0).2.2.2) from ⟨by omega, by rfl, by rfl, by rfl, by rfl⟩)
  obtain ⟨i, a, b, c, d⟩ := i
  have hi1' : (i ≤ (R1.length + R2.length + R3.length)) ∧ (a = (Sp.bxr ((R1 ++ R2) ++ R3) i).1) ∧ (b = (Sp.bxr ((R1 ++ R2) ++ R3) i).2.1) ∧ (c = (Sp.bxr ((R1 ++ R2) ++ R3) i).2.2.1) ∧ (d = (Sp.bxr ((R1 ++ R2) ++ R3) i).2.2.2) := hi1
  obtain ⟨hi, ha, hb, hc, hd⟩ := hi1'
  show AL _ _ _ (mkSt 4 [(2, .pointer (some ⟨4, 0, none⟩)), (3, .pointer (some ⟨5, 0, none⟩)), (7, .slice (some ⟨6, 0, none⟩) (R1.length + R2.length + R3.length) 0), (8, .int .i64 (((R1.length + R2.length + R3.length) : Nat) : Int)), (9, .int .i64 ((i : Nat) : Int))] [(0, ⟨[.slice (some ⟨1, 0, none⟩) R1.length 0, .slice (some ⟨2, 0, none⟩) R2.length 0, .slice (some ⟨3, 0, none⟩) R3.length 0], 30, true, 1⟩), (1, ⟨(R1.flatMap ptc), 28, true, 2⟩), (2, ⟨(R2.flatMap ptc), 28, true, 2⟩), (3, ⟨(R3.flatMap ptc), 28, true, 2⟩), (4, ⟨[.int .i64 0, .int .i64 0, .int .i64 0, .int .i64 0], 37, true, 4⟩), (5, ⟨[.int .i64 a, .int .i64 b, .int .i64 c, .int .i64 d], 37, true, 4⟩), (6, ⟨(((R1 ++ R2) ++ R3).flatMap ptc), 28, true, 2⟩)]) _
  refine al_round ?_
  refine aw_p 239 (
    .a 1 7 <| .nil _ _) ?_
  refine aw_sq 478 479 ?_
  refine aw_cd 956 957 (decide (((i : Nat) : Int) < (((R1.length + R2.length + R3.length) : Nat) : Int))) (fun h1 => ?_) (fun h1 => ?_)
  · have h1p : ((((i : Nat) : Int) < (((R1.length + R2.length + R3.length) : Nat) : Int))) := by first | (simpa using h1) | (have h1q := h1; simp at h1q; omega) | (have h1q := bx1 h1; simp at h1q; omega)
    refine aw_sk ?_
    refine then_normal ?_
    refine aw_sq 958 959 ?_
    refine aw_bl 1 1917 ?_
    refine aw_p 3835 (
      .a 1 7 <| .p (does_indexSlice (t := 30) (x := .tmp 7) (y := .tmp 9) (k := 6) (off := 0) (n := (R1.length + R2.length + R3.length)) (c := 0) (z := 2) (kd := .i64) (j := ((i : Nat) : Int)) (by kernel_rfl) (by kernel_rfl) (by kernel_rfl) (by kernel_rfl) (by kernel_rfl) (by omega) (by omega)) <|
      .p (does_load (t := 28) (x := .tmp 12) (k := 6) (off := (0 + (((i : Nat) : Int)).toNat * 2)) (b := ⟨(((R1 ++ R2) ++ R3).flatMap ptc), 28, true, 2⟩) (v := .agg #[.int .i64 ((((R1 ++ R2) ++ R3).getD i (0, 0)).1), .int .i64 ((((R1 ++ R2) ++ R3).getD i (0, 0)).2)]) (by kernel_rfl) (by kernel_rfl) (by kernel_rfl) (ldV_pair (j := i) (by kernel_rfl) (by kernel_rfl) (by omega) (by first | omega | (simp only [List.length_append]; omega)))) <|
      .a 3 7 <| .nil _ _) ?_
    refine aw_sq 7670 7671 ?_
    refine aw_p 15341 (
      .a 2 8 <| .nil _ _) ?_
    refine aw_cd 30682 30683 (((i : Nat) : Int) == 0) (fun h2 => ?_) (fun h2 => ?_)
    · have h2p : ((((i : Nat) : Int) = 0)) := by first | (simpa using h2) | (have h2q := h2; simp at h2q; omega) | (have h2q := bx1 h2; simp at h2q; omega)
      have h0 :  i = 0 := by first | (have q := h2; simp at q; omega)
      refine aw_p1 (
        .a 4 8 <| .nil _ _) ?_
      refine then_normal ?_
      refine aw_p 15343 (
        .a 15 8 <| .nil _ _) ?_
      refine aw_p1 (
        .a 15 8 <| .nil _ _) ?_
      refine block_normal ?_
      refine then_normal ?_
      refine aw_p1 (
        .p (does_i (((i : Nat) : Int) + 1) (wrap_i64 (by omega) (by omega)) .i64) <| .a 1 8 <| .nil _ _) ?_
      refine then_normal ?_
      refine al_w [(2, .pointer (some ⟨4, 0, none⟩)), (3, .pointer (some ⟨5, 0, none⟩)), (7, .slice (some ⟨6, 0, none⟩) (R1.length + R2.length + R3.length) 0), (8, .int .i64 (((R1.length + R2.length + R3.length) : Nat) : Int)), (9, .int .i64 (((i + 1) : Nat) : Int))] [(0, ⟨[.slice (some ⟨1, 0, none⟩) R1.length 0, .slice (some ⟨2, 0, none⟩) R2.length 0, .slice (some ⟨3, 0, none⟩) R3.length 0], 30, true, 1⟩), (1, ⟨(R1.flatMap ptc), 28, true, 2⟩), (2, ⟨(R2.flatMap ptc), 28, true, 2⟩), (3, ⟨(R3.flatMap ptc), 28, true, 2⟩), (4, ⟨[.int .i64 0, .int .i64 0, .int .i64 0, .int .i64 0], 37, true, 4⟩), (5, ⟨[.int .i64 (Sp.mn ((((R1 ++ R2) ++ R3).getD i (0, 0)).1) ((((R1 ++ R2) ++ R3).getD i (0, 0)).1)), .int .i64 (Sp.mn ((((R1 ++ R2) ++ R3).getD i (0, 0)).2) ((((R1 ++ R2) ++ R3).getD i (0, 0)).2)), .int .i64 (Sp.mx ((((R1 ++ R2) ++ R3).getD i (0, 0)).1) ((((R1 ++ R2) ++ R3).getD i (0, 0)).1)), .int .i64 (Sp.mx ((((R1 ++ R2) ++ R3).getD i (0, 0)).2) ((((R1 ++ R2) ++ R3).getD i (0, 0)).2))], 37, true, 4⟩), (6, ⟨(((R1 ++ R2) ++ R3).flatMap ptc), 28, true, 2⟩)] ?_ (hc := (by simp [closedB, valsB, valB, List.all_eq_true, List.mem_flatMap, List.mem_range, List.mem_map, i64v, ptc, flat1]; try (intros; simp [valsB, valB, flat1]); try decide))
      exact ih1 ((i + 1), (Sp.mn ((((R1 ++ R2) ++ R3).getD i (0, 0)).1) ((((R1 ++ R2) ++ R3).getD i (0, 0)).1)), (Sp.mn ((((R1 ++ R2) ++ R3).getD i (0, 0)).2) ((((R1 ++ R2) ++ R3).getD i (0, 0)).2)), (Sp.mx ((((R1 ++ R2) ++ R3).getD i (0, 0)).1) ((((R1 ++ R2) ++ R3).getD i (0, 0)).1)), (Sp.mx ((((R1 ++ R2) ++ R3).getD i (0, 0)).2) ((((R1 ++ R2) ++ R3).getD i (0, 0)).2))) (show ((i + 1) ≤ (R1.length + R2.length + R3.length)) ∧ ((Sp.mn ((((R1 ++ R2) ++ R3).getD i (0, 0)).1) ((((R1 ++ R2) ++ R3).getD i (0, 0)).1)) = (Sp.bxr ((R1 ++ R2) ++ R3) (i + 1)).1) ∧ ((Sp.mn ((((R1 ++ R2) ++ R3).getD i (0, 0)).2) ((((R1 ++ R2) ++ R3).getD i (0, 0)).2)) = (Sp.bxr ((R1 ++ R2) ++ R3) (i + 1)).2.1) ∧ ((Sp.mx ((((R1 ++ R2) ++ R3).getD i (0, 0)).1) ((((R1 ++ R2) ++ R3).getD i (0, 0)).1)) = (Sp.bxr ((R1 ++ R2) ++ R3) (i + 1)).2.2.1) ∧ ((Sp.mx ((((R1 ++ R2) ++ R3).getD i (0, 0)).2) ((((R1 ++ R2) ++ R3).getD i (0, 0)).2)) = (Sp.bxr ((R1 ++ R2) ++ R3) (i + 1)).2.2.2) from ⟨by omega, by (first | (rw [Sp.bxr_0 (by assumption)]) | (rw [Sp.bxr_n (by assumption), ← ha, ← hb, ← hc, ← hd])), by (first | (rw [Sp.bxr_0 (by assumption)]) | (rw [Sp.bxr_n (by assumption), ← ha, ← hb, ← hc, ← hd])), by (first | (rw [Sp.bxr_0 (by assumption)]) | (rw [Sp.bxr_n (by assumption), ← ha, ← hb, ← hc, ← hd])), by (first | (rw [Sp.bxr_0 (by assumption)]) | (rw [Sp.bxr_n (by assumption), ← ha, ← hb, ← hc, ← hd]))⟩) (show (R1.length + R2.length + R3.length) - (i + 1) < (R1.length + R2.length + R3.length) - i from by omega)
    · have h2p : ¬ ((((i : Nat) : Int) = 0)) := by first | (simpa using h2) | (have h2q := h2; simp at h2q; omega) | (have h2q := bx2 h2; simp at h2q; omega)
      have h0 : ¬ i = 0 := by first | (have q := h2; simp at q; omega)
      refine aw_sk ?_
      refine then_normal ?_
      refine aw_p 15343 (
        .a 15 8 <| .nil _ _) ?_
      refine aw_p1 (
        .a 15 8 <| .nil _ _) ?_
      refine block_normal ?_
      refine then_normal ?_
      refine aw_p1 (
        .p (does_i (((i : Nat) : Int) + 1) (wrap_i64 (by omega) (by omega)) .i64) <| .a 1 8 <| .nil _ _) ?_
      refine then_normal ?_
      refine al_w [(2, .pointer (some ⟨4, 0, none⟩)), (3, .pointer (some ⟨5, 0, none⟩)), (7, .slice (some ⟨6, 0, none⟩) (R1.length + R2.length + R3.length) 0), (8, .int .i64 (((R1.length + R2.length + R3.length) : Nat) : Int)), (9, .int .i64 (((i + 1) : Nat) : Int))] [(0, ⟨[.slice (some ⟨1, 0, none⟩) R1.length 0, .slice (some ⟨2, 0, none⟩) R2.length 0, .slice (some ⟨3, 0, none⟩) R3.length 0], 30, true, 1⟩), (1, ⟨(R1.flatMap ptc), 28, true, 2⟩), (2, ⟨(R2.flatMap ptc), 28, true, 2⟩), (3, ⟨(R3.flatMap ptc), 28, true, 2⟩), (4, ⟨[.int .i64 0, .int .i64 0, .int .i64 0, .int .i64 0], 37, true, 4⟩), (5, ⟨[.int .i64 (Sp.mn a ((((R1 ++ R2) ++ R3).getD i (0, 0)).1)), .int .i64 (Sp.mn b ((((R1 ++ R2) ++ R3).getD i (0, 0)).2)), .int .i64 (Sp.mx c ((((R1 ++ R2) ++ R3).getD i (0, 0)).1)), .int .i64 (Sp.mx d ((((R1 ++ R2) ++ R3).getD i (0, 0)).2))], 37, true, 4⟩), (6, ⟨(((R1 ++ R2) ++ R3).flatMap ptc), 28, true, 2⟩)] ?_ (hc := (by simp [closedB, valsB, valB, List.all_eq_true, List.mem_flatMap, List.mem_range, List.mem_map, i64v, ptc, flat1]; try (intros; simp [valsB, valB, flat1]); try decide))
      exact ih1 ((i + 1), (Sp.mn a ((((R1 ++ R2) ++ R3).getD i (0, 0)).1)), (Sp.mn b ((((R1 ++ R2) ++ R3).getD i (0, 0)).2)), (Sp.mx c ((((R1 ++ R2) ++ R3).getD i (0, 0)).1)), (Sp.mx d ((((R1 ++ R2) ++ R3).getD i (0, 0)).2))) (show ((i + 1) ≤ (R1.length + R2.length + R3.length)) ∧ ((Sp.mn a ((((R1 ++ R2) ++ R3).getD i (0, 0)).1)) = (Sp.bxr ((R1 ++ R2) ++ R3) (i + 1)).1) ∧ ((Sp.mn b ((((R1 ++ R2) ++ R3).getD i (0, 0)).2)) = (Sp.bxr ((R1 ++ R2) ++ R3) (i + 1)).2.1) ∧ ((Sp.mx c ((((R1 ++ R2) ++ R3).getD i (0, 0)).1)) = (Sp.bxr ((R1 ++ R2) ++ R3) (i + 1)).2.2.1) ∧ ((Sp.mx d ((((R1 ++ R2) ++ R3).getD i (0, 0)).2)) = (Sp.bxr ((R1 ++ R2) ++ R3) (i + 1)).2.2.2) from ⟨by omega, by (first | (rw [Sp.bxr_0 (by assumption)]) | (rw [Sp.bxr_n (by assumption), ← ha, ← hb, ← hc, ← hd])), by (first | (rw [Sp.bxr_0 (by assumption)]) | (rw [Sp.bxr_n (by assumption), ← ha, ← hb, ← hc, ← hd])), by (first | (rw [Sp.bxr_0 (by assumption)]) | (rw [Sp.bxr_n (by assumption), ← ha, ← hb, ← hc, ← hd])), by (first | (rw [Sp.bxr_0 (by assumption)]) | (rw [Sp.bxr_n (by assumption), ← ha, ← hb, ← hc, ← hd]))⟩) (show (R1.length + R2.length + R3.length) - (i + 1) < (R1.length + R2.length + R3.length) - i from by omega)
  · have h1p : ¬ ((((i : Nat) : Int) < (((R1.length + R2.length + R3.length) : Nat) : Int))) := by first | (simpa using h1) | (have h1q := h1; simp at h1q; omega) | (have h1q := bx2 h1; simp at h1q; omega)
    have hl : i = ((R1 ++ R2) ++ R3).length := by omega
    have ha' : a = (Sp.bxr ((R1 ++ R2) ++ R3) (((R1 ++ R2) ++ R3).length)).1 := by rw [ha, hl]
    have hb' : b = (Sp.bxr ((R1 ++ R2) ++ R3) (((R1 ++ R2) ++ R3).length)).2.1 := by rw [hb, hl]
    have hc' : c = (Sp.bxr ((R1 ++ R2) ++ R3) (((R1 ++ R2) ++ R3).length)).2.2.1 := by rw [hc, hl]
    have hd' : d = (Sp.bxr ((R1 ++ R2) ++ R3) (((R1 ++ R2) ++ R3).length)).2.2.2 := by rw [hd, hl]
    refine aw_ex 0 ?_
    refine then_exit ?_
    refine then_exit ?_
    refine block_exit ?_
    refine then_normal ?_
    refine aw_p 31 (
      .a 2 7 <| .nil _ _) ?_
    refine aw_rt ?_
    exact en_ret [.agg #[.int .i64 a, .int .i64 b, .int .i64 c, .int .i64 d]] (show (.agg #[.int .i64 a, .int .i64 b, .int .i64 c, .int .i64 d] : Value) = (.agg #[.int .i64 ((Sp.bxr ((R1 ++ R2) ++ R3) (((R1 ++ R2) ++ R3).length)).1), .int .i64 ((Sp.bxr ((R1 ++ R2) ++ R3) (((R1 ++ R2) ++ R3).length)).2.1), .int .i64 ((Sp.bxr ((R1 ++ R2) ++ R3) (((R1 ++ R2) ++ R3).length)).2.2.1), .int .i64 ((Sp.bxr ((R1 ++ R2) ++ R3) (((R1 ++ R2) ++ R3).length)).2.2.2)]) from (congrArg (fun z : List Value => Value.agg z.toArray) (lcons (congrArg (Value.int .i64) (show a = ((Sp.bxr ((R1 ++ R2) ++ R3) (((R1 ++ R2) ++ R3).length)).1) from by (first | exact ha' | exact hb' | exact hc' | exact hd'))) (lcons (congrArg (Value.int .i64) (show b = ((Sp.bxr ((R1 ++ R2) ++ R3) (((R1 ++ R2) ++ R3).length)).2.1) from by (first | exact ha' | exact hb' | exact hc' | exact hd'))) (lcons (congrArg (Value.int .i64) (show c = ((Sp.bxr ((R1 ++ R2) ++ R3) (((R1 ++ R2) ++ R3).length)).2.2.1) from by (first | exact ha' | exact hb' | exact hc' | exact hd'))) (lcons (congrArg (Value.int .i64) (show d = ((Sp.bxr ((R1 ++ R2) ++ R3) (((R1 ++ R2) ++ R3).length)).2.2.2) from by (first | exact ha' | exact hb' | exact hc' | exact hd'))) rfl))))))


end Go.Proofs.Ytndkhgfecnbmnaa.Am
